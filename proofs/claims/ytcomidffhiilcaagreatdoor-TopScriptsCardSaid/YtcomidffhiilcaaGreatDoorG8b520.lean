import Derived.Test.YtcomidffhiilcaaGreatDoorG010de
import Derived.Test.YtcomidffhiilcaaGreatDoorG8fc3d
set_option maxRecDepth 100000
set_option maxHeartbeats 8000000
set_option linter.unusedSimpArgs false
set_option linter.unusedVariables false
namespace Go.Proofs.YtcomidffhiilcaaGreatDoor
open ChangeShapes WideShapes RowKit
def Jq (n:Int):Prop:=0<=n/\n<=2147483647
theorem ai2 {n:Int} (h:Jq n):(qI n).1=yT n:=by unfold qI;unfold Jq at h;rw [if_pos h]
theorem aeT {n:Int} (h:Jq n) (t:List UInt8):ou (yT n++t)=(n,0):=by
 obtain ⟨h0,h1⟩:=h;unfold yT ou;simp only [List.cons_append,List.nil_append,UInt8.toNat_ofNat'];rw [if_neg oQ];simp only [Prod.mk.injEq,and_true];omega
theorem F5 {n:Int} {l:List Int} (h:Jq n):jJ (n::l)=yT n++jJ l:=by
 show (n::l).flatMap _=_
 rw [List.flatMap_cons,ai2 h];rfl
theorem Ya: ∀ {l:List Int},(∀ n∈l,Jq n)->(jJ l).length=4*l.length
 | [],_=>rfl
 | n::l,h=>by
  rw [F5 (h n iQ),List.length_append,Ya (λm hm=>h m (by simp [hm])),show (yT n).length=4 from rfl,List.length_cons];omega
theorem Rm: ∀ {l:List Int} {j:Nat},(∀ n∈l,Jq n)->(jJ l).drop (4*j)=jJ (l.drop j)
 | l,0,_=>rfl
 | [],j+1,_=>by simp [jJ]
 | n::l,j+1,h=>by
  rw [F5 (h n iQ),List.drop_succ_cons,<-Rm (j:=j) (λm hm=>h m (by simp [hm])),show 4*(j+1)=(yT n).length+4*j by show _=4+_;omega,<-List.drop_drop,List.drop_left]
theorem Ug {l:List Int} {j:Nat} {n:Int} (h: ∀ n∈l,Jq n) (hj:l[j]? =some n):tk (jJ l) j=(n,0):=by
 unfold tk;obtain ⟨hl,hn⟩:=List.getElem?_eq_some_iff.1 hj;rw [Rm h,List.drop_eq_getElem_cons hl,hn,F5 (h n (by rw [<-hn];exact List.getElem_mem hl))];exact aeT (h n (by rw [<-hn];exact List.getElem_mem hl)) _
theorem ao2 {e:Ev} (h:bL e=0):Jq e.kind/\Jq e.producer/\Jq e.id/\Jq e.body/\Jq e.aL/\Jq e.hno:=by
 unfold bL at h;unfold Jq
 repeat' split at h
 all_goals first
  | exact absurd h dQ
  | (clear h;simp only [kC,Bool.and_eq_true,decide_eq_true_eq,not_and,Classical.not_not] at*;omega)
theorem ai3 {r:dH} (h:aJ r=0): ∀ n∈gq r,Jq n:=by
 unfold aJ at h
 split at h
 ·cases h
 split at h
 ·cases h
 rename_i h1 h2
 simp only [kC,Bool.and_eq_true,decide_eq_true_eq,Bool.not_eq_false] at h1 h2;intro n hn;unfold gq at hn;by_cases he:kW r.kind=true
 ·rw [if_pos he] at h hn;obtain ⟨g1,g2,g3,g4,g5,g6⟩:=ao2 h;simp only [List.cons_append,List.nil_append,List.mem_cons,List.not_mem_nil,or_false] at hn
  rcases hn with rfl | rfl | rfl | rfl | rfl | rfl | rfl | rfl | rfl | rfl
  any_goals assumption
  all_goals (unfold Jq;omega)
 rw [if_neg he] at hn;simp only [List.append_nil,List.mem_cons,List.not_mem_nil,or_false] at hn
 rcases hn with rfl | rfl | rfl | rfl
 all_goals (unfold Jq;omega)
theorem aeU {r:dH} (h:aJ r=0) (he: ¬ kW r.kind=true):r.ev=aQ:=by
 unfold aJ at h
 split at h
 ·cases h
 split at h
 ·cases h
 try rw [if_neg he] at h
 split at h
 ·assumption
 cases h
theorem ai4 {r:dH} (h:aJ r=0):sW (jJ (gq r))=(r,0):=by
 have hr:=ai3 h;have h0:tk (jJ (gq r)) 0=(r.kind,0):=Ug hr rfl;have hm:kZ (jJ (gq r))=(gq r).length:=by
  unfold kZ;rw [h0];by_cases he:kW r.kind=true
  ·rw [if_pos (show kW (r.kind,(0:Int)).1=true from he)];unfold gq;rw [if_pos he];rfl
  rw [if_neg (show ¬ kW (r.kind,(0:Int)).1=true from he)];unfold gq;rw [if_neg he];rfl
 have hz:yK (jJ (gq r)) (gq r).length=0:=uK λj hj=>by rw [Ug hr (List.getElem?_eq_getElem hj)]
 have hto:nM (jJ (gq r)) (gq r).length=r:=by
  have hv: ∀ j n,(gq r)[j]? =some n->iL (jJ (gq r)) (gq r).length j=n:=λj n hj=>by
   unfold iL;rw [if_pos (List.getElem?_eq_some_iff.1 hj).1,Ug hr hj]
  have hw: ∀ j,(gq r).length<=j->iL (jJ (gq r)) (gq r).length j=0:=λj hj=>if_neg oQ;unfold nM;rw [hv 0 r.kind rfl,hv 1 r.queue rfl,hv 2 r.epoch rfl,hv 3 r.peer rfl];by_cases he:kW r.kind=true
  ·have hn:gq r=[r.kind,r.queue,r.epoch,r.peer,r.ev.kind,r.ev.producer,r.ev.id,r.ev.body,r.ev.aL,r.ev.hno]:=by unfold gq;rw [if_pos he];rfl
   rw [hv 4 r.ev.kind (by rw [hn];rfl),hv 5 r.ev.producer (by rw [hn];rfl),hv 6 r.ev.id (by rw [hn];rfl),hv 7 r.ev.body (by rw [hn];rfl),hv 8 r.ev.aL (by rw [hn];rfl),hv 9 r.ev.hno (by rw [hn];rfl)]
  have hn:(gq r).length=4:=by unfold gq;rw [if_neg he];rfl
  rw [hw 4 oQ,hw 5 oQ,hw 6 oQ,hw 7 oQ,hw 8 oQ,hw 9 oQ];have:=aeU h he;unfold aQ at this;rw [<-this]
 unfold sW;rw [hm,if_neg (by rw [hz];simp),hto,if_neg (by rw [Ya hr,h];simp)]
theorem ao3 {r:dH} (h:aJ r=0):nH r=(jJ (gq r),0):=by unfold nH;rw [if_neg (by simpa using h)]
def nK (r:dH):List UInt8:=jO (nH r).1
def dh (rs:List dH):List UInt8:=rs.flatMap nK
theorem lN (a b:List dH):dh (a++b)=dh a++dh b:=List.flatMap_append
theorem Rn (r:dH):6<=(nK r).length/\(nK r).length<=46:=by
 unfold nK;rw [uL];have:=El r;omega
theorem Nj {p t:List UInt8} (hp:p.length<=65535) {k:Nat} (hk:2<=k):cK ((jO p).take k++t)=p.length:=by
 obtain ⟨k,rfl⟩: ∃ j,k=j+2:=⟨k-2,by omega⟩;unfold jO headed;simp only [List.cons_append,List.take_succ_cons,cK,UInt8.toNat_ofNat'];omega
theorem Te {r:dH} (h:aJ r=0) (t:List UInt8):firstM (nK r++t)=(r,(nK r).length):=by
 have hl:=El r;have hfl:(nK r).length=(nH r).1.length+6:=uL _;have hpay:cK (nK r++t)=(nH r).1.length:=by
  have:=Nj (p:=(nH r).1) (t:=t) oQ (k:=(nK r).length) oQ;rwa [show List.take (nK r).length (jO (nH r).1)=nK r from List.take_length] at this
 have hlen:(nK r++t).length=(nH r).1.length+6+t.length:=by rw [List.length_append,hfl]
 have hpl:((nK r++t).drop 2).take (cK (nK r++t))=(nH r).1:=by
  rw [hpay];unfold nK jO headed;simp
 have hd:sW (nH r).1=(r,0):=by rw [ao3 h];exact ai4 h
 rw [Pq oQ (by rw [hpay];omega) (by rw [hpl,hd]) (by rw [hpl,hpay,<-hfl,List.take_left];rfl),hpl,hd,hpay,hfl]
theorem Wz {r:dH} {k:Nat} (hk:k< (nK r).length):(firstM ((nK r).take k)).2=0:=by
 have hl:=El r;have hfl:(nK r).length=(nH r).1.length+6:=uL _;have h2:((nK r).take k).length=k:=by rw [List.length_take];omega
 by_cases hs:k<2
 ·rw [yP oQ];rfl
 have hpay:=Nj (p:=(nH r).1) (t:=[]) oQ (k:=k) oQ;rw [List.append_nil] at hpay;have at7:cK ((nK r).take k)=(nH r).1.length:=hpay;rw [Kw oQ (by rw [h2,at7];omega)];rfl
theorem yu: ∀ {rs:List dH} {t:List UInt8},(∀ r∈rs,aJ r=0)->(firstM t).2=0->bP (dh rs++t)=(rs,(dh rs).length)
 | [],t,_,ht=>GQ (by simpa [dh] using ht)
 | r::rs,t,h,ht=>by
  have e:dh (r::rs)++t=nK r++(dh rs++t):=by simp [dh,List.flatMap_cons]
  have hf:=Te (h r iQ) (dh rs++t);have hlen:=Rn r;rw [e,M6 (by rw [hf];show ¬ (nK r).length=0;omega),hf];simp only [List.drop_left];rw [yu (λx hx=>h x (by simp [hx])) ht];simp [dh,List.flatMap_cons]
theorem xq:(firstM []).2=0:=by rw [yP iQ];rfl
theorem Nk: ∀ (rs:List dH) (k:Nat),k<=(dh rs).length-> ∃ j t,(dh rs).take k=dh (rs.take j)++t/\(firstM t).2=0/\j<=rs.length
 | [],k,_=>⟨0,[],by simp [dh],xq,Nat.le_refl _⟩
 | r::rs,k,hk=>by
  have e:dh (r::rs)=nK r++dh rs:=by simp [dh,List.flatMap_cons]
  by_cases h:k< (nK r).length
  ·refine ⟨0,(nK r).take k,?_,Wz h,Nat.zero_le _⟩;rw [e,List.take_append_of_le_length oQ];simp [dh]
  rw [e,List.length_append] at hk;obtain ⟨j,t,h1,h2,h3⟩:=Nk rs (k-(nK r).length) oQ;refine ⟨j+1,t,?_,h2,by simp;omega⟩;rw [e,List.take_append,List.take_of_length_le oQ,h1];simp [dh,List.flatMap_cons]
theorem Nl {l:List UInt8} {s:Int} {r:dH} (h:(jr l s r).2.2=0):jr l s r=(l++nK r,s,0)/\aJ r=0/\l.length+(nK r).length<=100000:=by
 unfold jr at h⊢
 split at h
 ·cases h
 split at h
 ·rename_i h2;exact absurd h h2
 split at h
 ·cases h
 rename_i h1 h2 h3
 rw [if_neg h1,if_neg h2,if_neg h3];refine ⟨rfl,?_,by show _+(jO (nH r).1).length<=_;omega⟩;unfold nH at h2
 split at h2
 ·exact Classical.not_not.1 h2
 rename_i h4;exact Classical.not_not.1 h4
end Go.Proofs.YtcomidffhiilcaaGreatDoor
