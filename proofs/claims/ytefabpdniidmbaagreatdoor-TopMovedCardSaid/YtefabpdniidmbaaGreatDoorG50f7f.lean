import Derived.Scope
import Derived.Test.YtefabpdniidmbaaGreatDoorCards
import Derived.Test.YtefabpdniidmbaaGreatDoorG949d7
set_option linter.all false
set_option maxRecDepth 100000
set_option maxHeartbeats 8000000
namespace Go.Proofs.YtefabpdniidmbaaGreatDoor
open List Nat Go.Proofs.Tryz ChangeShapes WideShapes RowKit
def gq(n lo hi:Int)(w:World):
 Calls prog 76 #[.int .i64 n,.int .i64 lo,.int .i64 hi] w λe w'=>e=.returned (.bool (mK n lo hi))/\w=w':=by
 by_cases h1:lo<=n<;>by_cases h2:n<=hi
 all_goals
  go_enter func76,ntmps76
  go_wp2
  go_ret
  exact⟨by simp[mK];omega,E⟩
def bK(e:Ev):Int:=
 if ¬(1<=e.kind/\e.kind<=4)then 3
 else if e.kind=1/\ ¬(mK e.OU 0 3&&mK e.id 0 1073741824&&mK e.body 0 1000000)=true then 2
 else if e.kind=3/\ ¬(mK e.OZ 0 1048576&&mK e.PX 0 1073741824)=true then 2
 else if e.kind≠1/\ ¬(e.OU=0/\e.id=0/\e.body=0)then 3
 else if e.kind≠3/\ ¬(e.OZ=0/\e.PX=0)then 3
 else 0
def pR(w:World)(k:Int)(e:Ending)(w':World):Prop:=e=.returned (.int .i64 k)/\Below w.heap.size w w'
def abV(p i b he hn:Int)(w:World)(hb:(mK p 0 3&&mK i 0 1073741824&&mK b 0 1000000)=false):
 Calls prog 78 #[Ev.val ⟨1,p,i,b,he,hn⟩] w (pR w 2):=by
 unfold Ev.val
 cases r1:mK p 0 3<;>cases r2:mK i 0 1073741824<;>cases r3:mK b 0 1000000<;>simp[r1,r2,r3]at hb
 all_goals
  go_enter func78,ntmps78
  go_wp2_with (go_at_call 76;refine(gq _ _ _ _).mono ?_;rintro e w' ⟨rfl,rfl⟩)
  go_region
  go_wp2_with (go_at_call 76;refine(gq _ _ _ _).mono ?_;rintro e w' ⟨rfl,rfl⟩)
  go_ret
  exact⟨E,by go_grown⟩
def ac0(p i b he hn:Int)(w:World)(hb:(mK p 0 3&&mK i 0 1073741824&&mK b 0 1000000)=true):
 Calls prog 78 #[Ev.val ⟨1,p,i,b,he,hn⟩] w (pR w (if he=0/\hn=0 then 0 else 3)):=by
 unfold Ev.val;simp only[Bool.and_eq_true]at hb;obtain⟨⟨r1,r2⟩,r3⟩:=hb;have hq:=uL ⟨1,p,i,b,0,0⟩ ⟨1,p,i,b,he,hn⟩;simp only[Ev.mk.injEq,true_and]at hq;by_cases z:0=he/\0=hn
 ·rw[au ⟨z.1.symm,z.2.symm⟩];rw[show decide (0=he/\0=hn)=true by simpa using z]at hq;obtain⟨rfl,rfl⟩:=z
  go_enter func78,ntmps78
  go_wp2_with (go_at_call 76;refine(gq _ _ _ _).mono ?_;rintro e w' ⟨rfl,rfl⟩)
  go_region
  go_wp2_with (go_at_call 76;refine(gq _ _ _ _).mono ?_;rintro e w' ⟨rfl,rfl⟩)
  go_ret
  exact⟨E,by go_grown⟩
 rw[ah (λh=>z ⟨h.1.symm,h.2.symm⟩)];rw[show decide (0=he/\0=hn)=false by simpa using z]at hq;have HZ:=Lib.hid z;clear z
 go_enter func78,ntmps78
 go_wp2_with (go_at_call 76;refine(gq _ _ _ _).mono ?_;rintro e w' ⟨rfl,rfl⟩)
 go_region
 go_wp2_with (go_at_call 76;refine(gq _ _ _ _).mono ?_;rintro e w' ⟨rfl,rfl⟩)
 go_ret
 exact⟨E,by go_grown⟩
def ac1(p i b he hn:Int)(w:World)(hb:(mK he 0 1048576&&mK hn 0 1073741824)=false):
 Calls prog 78 #[Ev.val ⟨3,p,i,b,he,hn⟩] w (pR w 2):=by
 unfold Ev.val
 cases r1:mK he 0 1048576<;>cases r2:mK hn 0 1073741824<;>simp[r1,r2]at hb
 all_goals
  go_enter func78,ntmps78
  go_wp2_with (go_at_call 76;refine(gq _ _ _ _).mono ?_;rintro e w' ⟨rfl,rfl⟩)
  go_ret
  exact⟨E,by go_grown⟩
def adJ(p i b he hn:Int)(w:World)(hb:(mK he 0 1048576&&mK hn 0 1073741824)=true):
 Calls prog 78 #[Ev.val ⟨3,p,i,b,he,hn⟩] w (pR w (if p=0/\i=0/\b=0 then 0 else 3)):=by
 unfold Ev.val;simp only[Bool.and_eq_true]at hb;obtain⟨r1,r2⟩:=hb;have hq:=uL ⟨3,0,0,0,he,hn⟩ ⟨3,p,i,b,he,hn⟩;simp only[Ev.mk.injEq,true_and,and_true]at hq;by_cases z:0=p/\0=i/\0=b
 ·rw[au ⟨z.1.symm,z.2.1.symm,z.2.2.symm⟩];rw[show decide (0=p/\0=i/\0=b)=true by simpa using z]at hq;obtain⟨rfl,rfl,rfl⟩:=z
  go_enter func78,ntmps78
  go_wp2_with (go_at_call 76;refine(gq _ _ _ _).mono ?_;rintro e w' ⟨rfl,rfl⟩)
  go_ret
  exact⟨E,by go_grown⟩
 rw[ah (λh=>z ⟨h.1.symm,h.2.1.symm,h.2.2.symm⟩)];rw[show decide (0=p/\0=i/\0=b)=false by simpa using z]at hq;have HZ:=Lib.hid z;clear z
 go_enter func78,ntmps78
 go_wp2_with (go_at_call 76;refine(gq _ _ _ _).mono ?_;rintro e w' ⟨rfl,rfl⟩)
 go_ret
 exact⟨E,by go_grown⟩
def aaq(k p i b he hn:Int)(w:World)(hk:k=2\/k=4):
 Calls prog 78 #[Ev.val ⟨k,p,i,b,he,hn⟩] w (pR w (if p=0/\i=0/\b=0/\he=0/\hn=0 then 0 else 3)):=by
 unfold Ev.val;have hq:=uL ⟨k,0,0,0,0,0⟩ ⟨k,p,i,b,he,hn⟩;simp only[Ev.mk.injEq,true_and]at hq;by_cases z:0=p/\0=i/\0=b/\0=he/\0=hn
 ·rw[au ⟨z.1.symm,z.2.1.symm,z.2.2.1.symm,z.2.2.2.1.symm,z.2.2.2.2.symm⟩];rw[show decide (0=p/\0=i/\0=b/\0=he/\0=hn)=true by simpa using z]at hq;obtain⟨rfl,rfl,rfl,rfl,rfl⟩:=z
  rcases hk with rfl|rfl
  all_goals
   go_enter func78,ntmps78
   go_wp2_with (go_at_call 76;refine(gq _ _ _ _).mono ?_;rintro e w' ⟨rfl,rfl⟩)
   go_ret
   exact⟨E,by go_grown⟩
 rw[ah (λh=>z ⟨h.1.symm,h.2.1.symm,h.2.2.1.symm,h.2.2.2.1.symm,h.2.2.2.2.symm⟩)];rw[show decide (0=p/\0=i/\0=b/\0=he/\0=hn)=false by simpa using z]at hq;have HZ:=Lib.hid z;clear z
 rcases hk with rfl|rfl
 all_goals
  go_enter func78,ntmps78
  go_wp2_with (go_at_call 76;refine(gq _ _ _ _).mono ?_;rintro e w' ⟨rfl,rfl⟩)
  go_ret
  exact⟨E,by go_grown⟩
def aar(k p i b he hn:Int)(w:World)(h1:(k==1)=false)(h2:(k==2)=false)(h3:(k==3)=false)(h4:(k==4)=false):
 Calls prog 78 #[Ev.val ⟨k,p,i,b,he,hn⟩] w (pR w 3):=by
 unfold Ev.val
 go_enter func78,ntmps78
 go_wp2_with (go_at_call 76;refine(gq _ _ _ _).mono ?_;rintro e w' ⟨rfl,rfl⟩)
 go_ret
 exact⟨E,by go_grown⟩
def J4(e:Ev)(w:World):Calls prog 78 #[e.val] w (pR w (bK e)):=by
 obtain⟨k,p,i,b,he,hn⟩:=e;by_cases O:k=1
 ·subst O
  cases I:(mK p 0 3&&mK i 0 1073741824&&mK b 0 1000000)
  ·have h:bK ⟨1,p,i,b,he,hn⟩=2:=by simp only[bK,I];simp
   rw[h];exact abV p i b he hn w I
  have h:bK ⟨1,p,i,b,he,hn⟩=if he=0/\hn=0 then 0 else 3:=by
   simp only[bK,I];by_cases z:he=0/\hn=0<;>simp[z]
  rw[h];exact ac0 p i b he hn w I
 by_cases Z:k=3
 ·subst Z
  cases I:(mK he 0 1048576&&mK hn 0 1073741824)
  ·have h:bK ⟨3,p,i,b,he,hn⟩=2:=by simp only[bK,I];simp
   rw[h];exact ac1 p i b he hn w I
  have h:bK ⟨3,p,i,b,he,hn⟩=if p=0/\i=0/\b=0 then 0 else 3:=by
   simp only[bK,I];by_cases z:p=0/\i=0/\b=0<;>simp[z]
  rw[h];exact adJ p i b he hn w I
 by_cases J:k=2\/k=4
 ·have h:bK ⟨k,p,i,b,he,hn⟩=if p=0/\i=0/\b=0/\he=0/\hn=0 then 0 else 3:=by
   have M:1<=k/\k<=4:=Y;simp only[bK,M,and_self,not_true_eq_false,if_false,O,Z,false_and,ne_eq,not_false_eq_true,true_and];by_cases z:p=0/\i=0/\b=0<;>by_cases y:he=0/\hn=0<;>simp[z,y]<;>omega
  rw[h];exact aaq k p i b he hn w J
 have h:bK ⟨k,p,i,b,he,hn⟩=3:=by
  have M:¬(1<=k/\k<=4):=Y;simp only[bK,M,not_false_eq_true,if_true]
 rw[h];exact aar k p i b he hn w (Az.2 Y) (Az.2 Y) (Az.2 Y) (Az.2 Y)
def Xz:∀ {v:Value} {s:Sh},Kd v s->wJ v v=true
 |_,.at_ (.int k),⟨n,rfl⟩=>by simp[wJ]
 |_,.at_ .bool,⟨n,rfl⟩=>by simp[wJ]
 |_,.at_ .str,⟨n,rfl⟩=>by simp[wJ]
 |_,.sl _ _,h=>h.elim
def BK:∀ {xs:List Value} {l:List Sh},fD Kd xs l->fM xs xs=true
 |[],[],_=>rfl
 |x::xs,s::l,h=>by
  rw[fM,Xz h.1,BK h.2];rfl
 |[],_::_,h=>h.elim
 |_::_,[],h=>h.elim
section
variable {P:Program}{w:World}{t:TypeId}{xo yo:Operand}{l:List Sh}{xs:List Value}
def afd(w:World)(J:flat P 30 t=some l)(M:GJ P 30 t=true)(O:∀xs,mkV P t xs=.agg xs.toArray)(I:fD Kd xs l):(binOp .neq t (.agg xs.toArray) (.agg xs.toArray)).run P w=.ok (.bool false) w:=by
 have h:=vE (P:=P) w J M O I I;rw[BK I]at h;exact h
def Io(w:World)(J:flat P 30 t=some l)(M:GJ P 30 t=true)(O:∀xs,mkV P t xs=.agg xs.toArray)(I:fD Kd xs l):(binOp .eql t (.agg xs.toArray) (.agg xs.toArray)).run P w=.ok (.bool true) w:=by
 have h:=zi (P:=P) w J M O I I;rw[BK I]at h;exact h
end
structure dN where
 kind:Int
 Qg:Int
 ME:Int
 UE:Int
 ev:Ev
 deriving DecidableEq
def dN.val(r:dN):Value:=.agg #[.int .i64 r.kind,.int .i64 r.Qg,.int .i64 r.ME,.int .i64 r.UE,.int .i64 r.ev.kind,.int .i64 r.ev.OU,.int .i64 r.ev.id,.int .i64 r.ev.body,.int .i64 r.ev.OZ,.int .i64 r.ev.PX]
def mQ(k:Int):Bool:=k==2 || k==5
def aQ:Ev:=⟨0,0,0,0,0,0⟩
def aO(r:dN):Int:=
 if mK r.kind 1 7=false then 3
 else if (mK r.Qg 0 3&&mK r.ME 0 1048576&&mK r.UE 0 4)=false then 2
 else if mQ r.kind=true then bK r.ev
 else if r.ev=aQ then 0 else 3
def iH(k:Int)(w:World):Calls prog 77 #[.int .i64 k] w λe w'=>e=.returned (.bool (mQ k))/\w=w':=by
 unfold mQ
 cases h1:(k==2)<;>cases h2:(k==5)
 all_goals
  go_enter func77,ntmps77
  go_wp2
  go_ret
  exact⟨by simp,E⟩
def XA(r:dN)(w:World)(h:mK r.kind 1 7=false):Calls prog 59 #[r.val] w (pR w 3):=by
 obtain⟨k,q,ep,pe,x0,x1,x2,x3,x4,x5⟩:=r;unfold dN.val;simp only at h
 rcases adC.1 h with h1|h1
 all_goals
  clear h
  go_enter func59,ntmps59
  go_wp2_with (first|(go_at_call 76;refine(gq _ _ _ _).mono ?_;rintro e w' ⟨rfl,rfl⟩)|(go_at_call 77;refine(iH _ _).mono ?_;rintro e w' ⟨rfl,rfl⟩))
  go_ret
  exact⟨E,by go_grown⟩
def afe(r:dN)(w:World)(h:mK r.kind 1 7=true)(hb:(mK r.Qg 0 3&&mK r.ME 0 1048576&&mK r.UE 0 4)=false):Calls prog 59 #[r.val] w (pR w 2):=by
 obtain⟨k,q,ep,pe,x0,x1,x2,x3,x4,x5⟩:=r;unfold dN.val;simp only at h hb;obtain⟨hk0,hk1⟩:=GN.1 h
 cases r1:mK q 0 3<;>cases r2:mK ep 0 1048576<;>cases r3:mK pe 0 4<;>simp[r1,r2,r3]at hb
 all_goals
  go_enter func59,ntmps59
  go_wp2_with (first|(go_at_call 76;refine(gq _ _ _ _).mono ?_;rintro e w' ⟨rfl,rfl⟩)|(go_at_call 77;refine(iH _ _).mono ?_;rintro e w' ⟨rfl,rfl⟩))
  go_ret
  exact⟨E,by go_grown⟩
def XB(r:dN)(w:World)(h:mK r.kind 1 7=true)(hb:(mK r.Qg 0 3&&mK r.ME 0 1048576&&mK r.UE 0 4)=true)(he:mQ r.kind=false):Calls prog 59 #[r.val] w (pR w (if r.ev=aQ then 0 else 3)):=by
 obtain⟨k,q,ep,pe,x0,x1,x2,x3,x4,x5⟩:=r;unfold dN.val;simp only at h hb he⊢;obtain⟨hk0,hk1⟩:=GN.1 h;simp only[Bool.and_eq_true]at hb;obtain⟨⟨r1,r2⟩,r3⟩:=hb;have hq:=uL ⟨x0,x1,x2,x3,x4,x5⟩ aQ;by_cases z:(⟨x0,x1,x2,x3,x4,x5⟩:Ev)=aQ
 ·rw[au z];rw[show decide ((⟨x0,x1,x2,x3,x4,x5⟩:Ev)=aQ)=true from ko z]at hq;simp only[aQ]at hq z;simp only[Ev.mk.injEq]at z;obtain⟨rfl,rfl,rfl,rfl,rfl,rfl⟩:=z
  go_enter func59,ntmps59
  go_wp2_with (first|(go_at_call 76;refine(gq _ _ _ _).mono ?_;rintro e w' ⟨rfl,rfl⟩)|(go_at_call 77;refine(iH _ _).mono ?_;rintro e w' ⟨rfl,rfl⟩))
  go_ret
  exact⟨E,by go_grown⟩
 rw[ah z];rw[show decide ((⟨x0,x1,x2,x3,x4,x5⟩:Ev)=aQ)=false from jf z]at hq;simp only[aQ]at hq;have HZ:=Lib.hid z;clear z
 go_enter func59,ntmps59
 go_wp2_with (first|(go_at_call 76;refine(gq _ _ _ _).mono ?_;rintro e w' ⟨rfl,rfl⟩)|(go_at_call 77;refine(iH _ _).mono ?_;rintro e w' ⟨rfl,rfl⟩))
 go_ret
 exact⟨E,by go_grown⟩
def afh(r:dN)(w:World)(h:mK r.kind 1 7=true)(hb:(mK r.Qg 0 3&&mK r.ME 0 1048576&&mK r.UE 0 4)=true)(he:mQ r.kind=true):Calls prog 59 #[r.val] w (pR w (bK r.ev)):=by
 have HC:=Lib.hid (J4 r.ev);generalize bK r.ev=z at HC;obtain⟨k,q,ep,pe,x0,x1,x2,x3,x4,x5⟩:=r;unfold dN.val;unfold Ev.val at HC;simp only at h hb he HC⊢;obtain⟨hk0,hk1⟩:=GN.1 h;simp only[Bool.and_eq_true]at hb;obtain⟨⟨r1,r2⟩,r3⟩:=hb;have hk:k=2\/k=5:=by unfold mQ at he;simp at he;exact he
 rcases hk with rfl|rfl
 all_goals
  go_enter func59,ntmps59
  go_wp2_with (first|(go_at_call 76;refine(gq _ _ _ _).mono ?_;rintro e w' ⟨rfl,rfl⟩)|(go_at_call 77;refine(iH _ _).mono ?_;rintro e w' ⟨rfl,rfl⟩))
  refine(HC.out _).mono ?_;rintro e w1 ⟨rfl,hb1⟩;have HB:=Lib.hid hb1;clear hb1
  go_wp2_with fail
  go_ret
  exact⟨E,((Below.refl _ w).alloc aB _).trans (HB.out.mono iQ)⟩
def lF(r:dN)(w:World):Calls prog 59 #[r.val] w (pR w (aO r)):=by
 unfold aO
 cases h:mK r.kind 1 7
 ·rw[au E];exact XA r w h
 rw[ah iQ]
 cases I:(mK r.Qg 0 3&&mK r.ME 0 1048576&&mK r.UE 0 4)
 ·rw[au E];exact afe r w h I
 rw[ah iQ]
 cases he:mQ r.kind
 ·rw[ah iQ];exact XB r w h I he
 rw[au E];exact afh r w h I he
section
open ChangeAt
section
variable {P:Program}{N:Nat}{l:P7}{w w' w0:World}{B:Nat}{fs fs':List OJ}{ops:Array Oper}{o:Oper}{rest:List Oper}{Q:Exit->Act->World->Prop}{v:Value}{l':P7}
def vG:List Value->Nat->List Value->List Value
 |xs,_,[]=>xs
 |xs,k,v::vs=>vG (xs.set k v) (k+1) vs
def J5:∀(vs:List Value) (h:Array Value) (k:Nat),(dU h k vs).toList=vG h.toList k vs
 |[],_,_=>rfl
 |v::vs,h,k=>by rw[dU,vG,J5 vs,Array.toList_setIfInBounds]
def Qw(m:Nat):∀(vs xs:List Value) (k:Nat),(vG xs k vs).take m=vG (xs.take m) k vs
 |[],_,_=>rfl
 |v::vs,xs,k=>by rw[vG,vG,Qw m vs,take_set]
def J6:∀(vs xs:List Value) (k:Nat),(vG xs k vs).length=xs.length
 |[],_,_=>rfl
 |v::vs,xs,k=>by rw[vG,J6 vs,length_set]
def am6{e:TypeId}{s g n c k:Nat}{xs:List Value}(h:w.ownsRow B e s (.slice (some ⟨g,0,none⟩) n c) n xs)(cs:List Value):(w.setCells g k cs).ownsRow B e s (.slice (some ⟨g,0,none⟩) n c) n (vG xs k cs):=by
 obtain⟨O,h|⟨g',cap,I,hv,Z,hh,hn,hc,J,ht⟩⟩:=h
 ·exact av h.1 iQ
 injection hv with h1 h2 h3
 injection h1 with h1
 injection h1 with h1 h4 h5
 subst h1;subst h3;have hb:iM w g I e:=⟨hh⟩;have M:=lC cs k hb;refine⟨by rw[J6];exact O,.inr ⟨g,c,dU I k cs,E,Z,M.Oy,hn,hc,by rw[qy];exact J,?_⟩⟩;rw[J5,Qw,ht]
def St.atU{e:TypeId}{s g n c k:Nat}{xs:List Value}(i:Nat)(S:St B w0 w fs)(hi:fs[i]? =some (.own e s (.slice (some ⟨g,0,none⟩) n c) n xs))(cs:List Value):St B w0 (w.setCells g k cs) (fs.set i (.own e s (.slice (some ⟨g,0,none⟩) n c) n (vG xs k cs))):=
 St.agE i S hi (lD g cs k w) (am6 (S.own i hi) cs)
def St.aiD{e:TypeId}{s g n c k m:Nat}{xs:List Value}(i:Nat)(S:St B w0 w fs)(hi:fs[i]? =some (.own e s (.slice (some ⟨g,0,none⟩) n c) n xs))(hk:k+m<=n*s):w.there g k m:=λj hj=>by
 obtain⟨hl,h|⟨g',cap,I,hv,hg,Z,hn,hc,J,ht⟩⟩:=S.own i hi
 ·exact av h.1 iQ
 injection hv with h1 h2 h3
 injection h1 with h1
 injection h1 with h1 h4 h5
 subst h1;subst h3;have hle:n*s<=c*s:=Ay s hn;have M:k+j<I.size:=by rw[J];omega
 have O:iM w g I e:=⟨Z⟩;exact⟨by rw[O.cell (k:=k+j) (x9 M)];rfl,O.free _⟩
def nY{ty e:TypeId}{x y:Operand}{s g n c k m:Nat}{cs:Array Value}{xs xs':List Value}(i:Nat)(S:St B w0 w fs)(hw:Qb N ops l o true)(J:o.dst=none)(M:o.op=.store ty x y)(O:ev l x=some (.pointer (some ⟨g,k,none⟩)))(Z:ev l y=some v)
  (hi:fs[i]? =some (.own e s (.slice (some ⟨g,0,none⟩) n c) n xs)) (hv:v.cells=cs) (hz:(P.info? ty).map (·.size)=some m) (hm:cs.size=m) (h1:∀u∈cs.toList,u.oneCell'=true) (hk:k+m<=n*s) (I:vG xs k cs.toList=xs')
  (h:∀w',St B w0 w' (fs.set i (.own e s (.slice (some ⟨g,0,none⟩) n c) n xs'))->wL P N ops Q rest l w'):wL P N ops Q (o::rest) l w:=by
 subst I;exact Qm hw J (Sw M O Z (SA hv hz hm h1 (S.aiD i hi hk))) (h _ (S.atU i hi cs.toList))
def KS{ty t:TypeId}{x y:Operand}{b k:Nat}{u:Value}{row row':Array Value}(i:Nat)(S:St B w0 w fs)(hw:Qb N ops l o true)(J:o.dst=none)(M:o.op=.store ty x y)(O:ev l x=some (.pointer (some ⟨b,k,none⟩)))(Z:ev l y=some v)
  (hi:fs[i]? =some (.Oy b row t)) (hv:v.cells= #[u]) (hz:(P.info? ty).map (·.size)=some 1) (h1:u.oneCell'=true) (hk:k<row.size) (I:row.setIfInBounds k u=row')
  (h:∀w',St B w0 w' (fs.set i (.Oy b row' t))->wL P N ops Q rest l w'):wL P N ops Q (o::rest) l w:=by
 refine Ii i S hw J M O Z hi hv hz E (by simpa using h1) Y (row':=row') ?_ E h;subst I;rfl
def MI(P:Program)(c:Code)(Q:Exit->Act->World->Prop)(a:Act)(w:World):Prop:= ∀(b:Frame) (k:List Item) (cs:List Frame),∃e a' w',Q e a' w'/\Arrives P (lone (b.at a (.code c:: .inLoop c::k)) cs w) b k cs e a' w'
def wI(P:Program)(N:Nat)(c:Code)(Q:Exit->Act->World->Prop)(l:P7)(w:World):Prop:= ∀a,Fr N l a->MI P c Q a w
def Qx{c:Code}(h:wI P N c Q l w):wC P N (.loop c) Q l w:=by
 intro a F b k cs;obtain⟨e,J,w',M,I⟩:=h a F b k cs;exact⟨e,J,w',M,.of_steps (.one step_loop) I⟩
def pE{c:Code}(h:wC P N c (Exit.then (MI P c Q) Q) l w):wI P N c Q l w:=by
 intro a F b k cs;obtain⟨e,O,Z,M,I⟩:=h a F b (.inLoop c::k) cs
 cases e with
 |normal=>
  obtain⟨e₂,a₂,w₂,hq₂,J⟩:=M b k cs;exact⟨e₂,a₂,w₂,hq₂,.of_steps (Steps.trans I (.one step_inLoop)) J⟩
 |exit id=>exact⟨_,O,Z,M,.pass (x:=.inLoop c) E (λ_ _=>.inl iQ) I⟩
 |goto l=>exact⟨_,O,Z,M,.pass (x:=.inLoop c) E (λ_ _=>.inl iQ) I⟩
 |ret=>exact⟨_,O,Z,M,.pass (x:=.inLoop c) E (λ_ _=>.inl iQ) I⟩
 |panic ch=>exact⟨_,O,Z,M,.pass (x:=.inLoop c) E (λ_ _=>.inl iQ) I⟩
 |outgrown=>exact⟨_,O,Z,M,.pass (x:=.inLoop c) E (λ_ _=>.inl iQ) I⟩
def sN{c:Code}(h:wI P N c Q l w):wQ N (Exit.then (MI P c Q) Q) .normal l w:=h
end
def rP:Char:=Char.ofNat 32
def XC(b:List Char):wordsSigns (rP::b)=[]::wordsSigns b:=rfl
def Bj:∀(a b:List Char),a.all (λc=> !(c==rP))=true->wordsSigns (a++rP::b)=a::wordsSigns b
 |[],b,_=>XC b
 |c::a,b,h=>by
  simp only[all_cons,Bool.and_eq_true,Bool.not_eq_true',beq_eq_false_iff_ne]at h;have I:=Bj a b h.2;rw[vW,wordsSigns,I];intro e;exact h.1 e
def aas{l:List Char}(h1:l.take 8= "harness".toList++[rP])(h:((l.drop 8).take 64).all (λc=> !(c==rP))=true)(J:(l.drop 72).take 5=[rP]++("cut".toList++[rP])):
 ∃s rest,s=(l.drop 8).take 64/\wordsSigns l= "harness".toList::s:: "cut".toList::rest:=by
 refine⟨_,wordsSigns (l.drop 77),E,?_⟩;generalize hs:(l.drop 8).take 64=s at h;have I:l= "harness".toList++rP::(s++rP::("cut".toList++rP::l.drop 77)):=by
  have a1:l.take 8++l.drop 8=l:=yg 8 l;have a2:(l.drop 8).take 64++(l.drop 8).drop 64=l.drop 8:=yg 64 _;have a3:(l.drop 72).take 5++(l.drop 72).drop 5=l.drop 72:=yg 5 _;rw[lW]at a2 a3;rw[J]at a3;rw[h1]at a1;rw[hs]at a2
  calc l=_:=a1.symm
   _=_:=by rw[<-a2,show 8+64=72 from E,<-a3];simp
 generalize l.drop 77=r at I;rw[I,Bj _ _ dQ,Bj _ _ h,Bj _ _ dQ]
def Qy(rest:List (List Char)):stripLifts liftWords ("cut".toList::rest)=([], "cut".toList::rest):=by
 unfold liftWords
 repeat (rw[stripLifts,ah dQ])
 rw[stripLifts]
section
variable {P:Program}{s:List Char}{rest:List (List Char)}(hw:wordsSigns P.initOrder.toList= "harness".toList::s:: "cut".toList::rest)(hs:isSumSigns s=true)
include hw hs
def Bl:behindMainWord (wordsSigns P.initOrder.toList)= "cut".toList::rest:=by
 rw[hw,behindMainWord,au (by rw[hs];decide)]
def afx(h1:P.laysLater=false)(h:P.bearsReflect=false)(I:P.doorFits []=true):P.mayEnter=true:=by
 unfold Program.mayEnter;rw[Bl hw hs];simp only;rw[Qy];simp only[h1,h];rw[I];simp
def ac5:P.headLifts=[]:=by
 unfold Program.headLifts;rw[Bl hw hs,Qy];rfl
def acf:P.liftsFinal=false:=by
 unfold Program.liftsFinal;rw[ac5 hw hs,Bl hw hs];simp only[head?_cons];rw[show(some "cut".toList==some "carried".toList)=false by decide]
 rfl
def aiE:P.make=some .cut:=by
 unfold Program.make;rw[Bl hw hs];simp only;rw[ah dQ,au (by rw[show("cut".toList== "cut".toList)=true by decide];rfl)]
end
def aiF{P:Program}{s t:List Char}{rest:List (List Char)}(hw:wordsSigns P.initOrder.toList= "harness".toList::s::rest)(hs:isSumSigns s=true)(e:s=t):P.mainIs=some (true,t):=by
 subst e;unfold Program.mainIs;rw[hw];simp[hs]
def SK(P:Program)(f:FuncId)(fn:Func)(s:ChangeSpec)(c:OpenClaim):Bool:=
 c.wf (OpenSpec.ofChange s)&&laidOutB P&&mapsRowed P&&
 fn.params.all (P.readableRec ·)&&namedTie P c.named s.vars&&
 (c.stops==[])&&(P.stops==[])&&(c.knobs==[])&&(P.stopKnobs==[])&&
 (c.inPlace==P.inPlace f)&&(c.unfollowed==P.unfollowed f)&&(c.recurses==P.recurses f)&&(c.named==P.varsNamed f)&&
 (c.maps==(fn.params.toList++s.plain.varTypes P).any (P.mapsRec ·))&&(c.ifaces==(fn.params.toList++s.plain.varTypes P).any (P.ifacesRec ·))&&(c.mapsOut==P.mapsAmong fn.resultTypes.toList)&&
 (c.loops==(fn.params.toList++s.plain.varTypes P).any (P.loopsFrom ·))&&(c.wideKeys==(fn.params.toList++s.plain.varTypes P++fn.resultTypes.toList).any (P.wideKeysFrom ·))&&
 s.vars.all (P.varReadable ·)&&fn.resultTypes.all (λt=>P.readableRec t&&decide (t<P.types.size))&&(c.ifacesOut==fn.resultTypes.toList.any (P.ifacesRec ·))&&(c.loopsOut==fn.resultTypes.toList.any (P.loopsFrom ·))&&(c.plainKeys==P.plainKeys)&&c.shortTexts.isNone&&P.stopsHeard
def adK{P:Program}{f:FuncId}{fn:Func}{s:ChangeSpec}{c:OpenClaim}(h:SK P f fn s c=true)(h1:P.mayEnter=true)(I:(c.lifted==P.liftsFinal)=true)(J:(P.make==some c.make)=true)
  (M:((c.kinds==(if c.domain.isEmpty then[]else fn.params.toList.map λt=>match P.underlying t with|some (.int k)=>some k|_=>none))&&(c.pinned==c.pinnedBy)&&
   (c.veiled==(fn.params.toList++s.plain.varTypes P++fn.resultTypes.toList).any (P.veiledRec ·))&&c.veiledFits P fn.params.toList (fn.params.toList++s.plain.varTypes P++fn.resultTypes.toList))=true):joinedFacts P f fn s c=true:=by
 have e:joinedFacts P f fn s c=(SK P f fn s c&&P.mayEnter&&(c.lifted==P.liftsFinal)&&(P.make==some c.make)&&(c.kinds==(if c.domain.isEmpty then[]else fn.params.toList.map λt=>match P.underlying t with|some (.int k)=>some k|_=>none))&&(c.pinned==c.pinnedBy)&&
   (c.veiled==(fn.params.toList++s.plain.varTypes P++fn.resultTypes.toList).any (P.veiledRec ·))&&c.veiledFits P fn.params.toList (fn.params.toList++s.plain.varTypes P++fn.resultTypes.toList)):=rfl
 rw[e,h,h1,I,J];simpa using M
def adL:∃l:List Char,prog.initOrder.toList=l/\l.take 8= "harness".toList++[rP]/\((l.drop 8).take 64).all (λc=> !(c==rP))=true/\(l.drop 72).take 5=[rP]++("cut".toList++[rP])/\isSumSigns ((l.drop 8).take 64)=true/\(l.drop 8).take 64= "6fe912de042e0117d9696fbd5412dddc085af7f5c1166ba28784109a3e82b126".toList:=by
 rw[show prog.initOrder=tables.initOrder by kernel_rfl];unfold tables;simp only[];exact⟨_,String.toList_ofList,by kernel_rfl,by kernel_rfl,by kernel_rfl,by kernel_rfl,by kernel_rfl⟩
def D8:∃s rest,wordsSigns prog.initOrder.toList= "harness".toList::s:: "cut".toList::rest/\isSumSigns s=true/\s= "6fe912de042e0117d9696fbd5412dddc085af7f5c1166ba28784109a3e82b126".toList:=by
 obtain⟨l,e,h1,h,I,J,M⟩:=adL;obtain⟨s,rest,es,hw⟩:=aas h1 h I;subst es;exact⟨_,rest,by rw[e];exact hw,J,M⟩
def aat:prog.laysLater=false:=kQ
def afy:prog.bearsReflect=false:=kQ
def aau:prog.doorFits []=true:=kQ
def aav:prog.mayEnter=true:=by
 obtain⟨s,rest,hw,hs,_⟩:=D8;exact afx hw hs aat afy aau
def aaw:(false==prog.liftsFinal)=true:=by
 obtain⟨s,rest,hw,hs,_⟩:=D8;rw[acf hw hs];rfl
def adM:(prog.make==some .cut)=true:=by
 obtain⟨s,rest,hw,hs,_⟩:=D8;rw[aiE hw hs]
 decide
def adN:prog.mainIs=some (true, "6fe912de042e0117d9696fbd5412dddc085af7f5c1166ba28784109a3e82b126".toList):=by
 obtain⟨s,rest,hw,hs,e⟩:=D8;exact aiF hw hs e
def aax:true=Tryz.pinned.checked.prog.looks []:=kQ
end
end Go.Proofs.YtefabpdniidmbaaGreatDoor
