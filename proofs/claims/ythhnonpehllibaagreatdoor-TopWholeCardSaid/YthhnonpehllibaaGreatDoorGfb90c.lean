import Derived.Deep.LoopGhost
import Derived.Test.YthhnonpehllibaaGreatDoorG25c21
set_option maxRecDepth 100000
set_option maxHeartbeats 8000000
set_option linter.unusedSimpArgs false
set_option linter.unusedVariables false
namespace Go.Proofs.YthhnonpehllibaaGreatDoor
open ChangeShapes WideShapes RowKit
def iq:List Ev->List Ev->Nat
 | a::l,b::k=>if a=b then iq l k+1 else 0
 | _,_=>0
theorem Kk: ∀ (l k:List Ev),iq l k<=l.length/\iq l k<=k.length
 | a::l,b::k=>by
  have:=Kk l k;simp only [iq,List.length_cons]
  split<;>omega
 | [],_=>by simp [iq]
 | _::_,[]=>by simp [iq]
theorem Kl: ∀ (l k:List Ev) (n:Nat),n<=iq l k->(n<iq l k↔ ∃ a,l[n]? =some a/\k[n]? =some a)
 | a::l,b::k,n,h=>by
  simp only [iq] at h⊢
  split at h
  ·rename_i e
   subst e;rw [if_pos rfl]
   cases n with
   | zero=>simp
   | succ n=>
    have:=Kl l k n (by omega);simp only [List.getElem?_cons_succ];rw [<-this];omega
  rename_i e
  rw [if_neg e];have h0:n=0:=by omega
  subst h0
  constructor
  ·intro h;omega
  rintro ⟨x,h1,h2⟩;simp at h1 h2;exact absurd (h1.trans h2.symm) e
 | [],_,n,h=>by simp [iq]
 | _::_,[],n,h=>by simp [iq]
theorem Po (A A':Option Addr) (n c n' c':Nat) (l l':List Ev) (w:World) {B B':Nat} (h:Rd w B 6 A n (aN l)) (h':Rd w B' 6 A' n' (aN l')) (hm:n<=maxLen) (hm':n'<=maxLen):
  Calls Tryz.prog 11 #[.slice A n c,.slice A' n' c'] w λe w'=>e= .returned (.int .i64 (iq l l':Nat))/\ ∃ q,w'=w.drewN q:=by
 unfold maxLen at hm hm';have hl:=h.Uf;have hl':=h'.Uf;obtain ⟨m1,m2⟩:=Kk l l';have hat:=Kl l l';generalize iq l l'=m at*;have H:=Lib.hid h;have H':=Lib.hid h';have HA:=Lib.hid hat;rw [hl] at m1;rw [hl'] at m2;clear h h' hat hl hl'
 go_enter Tryz.func11,Tryz.ntmps11
 go_wp2
 go_loopw [5] (λi wr=> ∃ k:Nat,k<=m/\i= .int .i64 k/\ ∃ q,wr=w.drewN q) (λi _=>m+1-(intOf i).toNat)
 case atStart=>exact ⟨0,Nat.zero_le _,rfl,0,rfl⟩
 case round=>
  obtain ⟨k,hk,rfl,q,rfl⟩:=hrel;by_cases hlt:k<n/\k<n'
  ·obtain ⟨k1,k2⟩:=hlt;obtain ⟨b,off,e,rfl,hb,he,c0,c1,c2,c3,c4,c5⟩:=H.out.ajE k1;obtain ⟨b',off',e',rfl,hb',he',d0,d1,d2,d3,d4,d5⟩:=H'.out.ajE k2;have hq:=VR e e';have hiff:=HA.out k hk;rw [he,he'] at hiff;have hmin:((k:Int)<min (n:Int) (n':Int)):=by omega
   by_cases hee:e=e'
   ·have hkm:k<m:=hiff.2 ⟨e,rfl,by rw [hee]⟩;have hd:decide (e=e')=true:=by simpa using hee
    rw [hd] at hq;clear he he' hiff hee hd hmin;by_cases hc:n'<n
    all_goals
     go_wp2
     go_quiet (fail)
     go_wp2
     go_roundw
     case rel=>exact ⟨k+1,by omega,by go_num,q+nq,rfl⟩
     case measure=>simp [intOf];omega
   have hkm:k=m:=by
    rcases Nat.lt_or_ge k m with h | h
    ·obtain ⟨a,h1,h2⟩:=hiff.1 h;simp at h1 h2;exact absurd (h1.trans h2.symm) hee
    omega
   have hd:decide (e=e')=false:=by simpa using hee
   rw [hd] at hq;clear he he' hiff hee hd hmin;subst hkm;by_cases hc:n'<n
   all_goals
    go_wp2
    go_quiet (fail)
    go_wp2
    go_ret
    exact ⟨rfl,q+nq,World.drewN_drewN ..⟩
  have hkm:k=m:=by omega
  subst hkm;by_cases hc:n'<n
  ·have hk': ¬ k<n':=by omega
   have hd:decide ((k:Int)< (n':Int))=false:=by simpa using hk'
   clear hlt
   go_wp2
   go_quiet (fail)
   go_wp2
   go_ret
   exact ⟨rfl,q+nq,World.drewN_drewN ..⟩
  have hk': ¬ k<n:=by omega
  have hd:decide ((k:Int)< (n:Int))=false:=by simpa using hk'
  clear hlt
  go_wp2
  go_quiet (fail)
  go_wp2
  go_ret
  exact ⟨rfl,q+nq,World.drewN_drewN ..⟩
end Go.Proofs.YthhnonpehllibaaGreatDoor
