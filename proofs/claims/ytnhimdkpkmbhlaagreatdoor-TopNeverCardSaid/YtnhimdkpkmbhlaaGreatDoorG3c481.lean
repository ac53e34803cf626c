import Derived.Scope
import Derived.Test.YtnhimdkpkmbhlaaGreatDoorG03927
set_option maxRecDepth 100000
set_option maxHeartbeats 8000000
set_option linter.unusedSimpArgs false
set_option linter.unusedVariables false
namespace Go.Proofs.YtnhimdkpkmbhlaaGreatDoor
open ChangeShapes WideShapes ChangeAt RowKit
section
variable {P:Program} {N:Nat} {l:Slots} {w w' w0:World} {B:Nat} {fs fs':List Fact} {ops:Array Oper} {o:Oper} {rest:List Oper} {Q:Exit->Act->World->Prop} {v:Value}
def tV:List Value->Nat->List Value->List Value
 | xs,_,[]=>xs
 | xs,k,v::vs=>tV (xs.set k v) (k+1) vs
theorem Je: ∀ (vs:List Value) (cur:Array Value) (k:Nat),(dG cur k vs).toList=tV cur.toList k vs
 | [],_,_=>rfl
 | v::vs,cur,k=>by rw [dG,tV,Je vs,Array.toList_setIfInBounds]
theorem P5 (m:Nat): ∀ (vs xs:List Value) (k:Nat),(tV xs k vs).take m=tV (xs.take m) k vs
 | [],_,_=>rfl
 | v::vs,xs,k=>by rw [tV,tV,P5 m vs,List.take_set]
theorem Jf: ∀ (vs xs:List Value) (k:Nat),(tV xs k vs).length=xs.length
 | [],_,_=>rfl
 | v::vs,xs,k=>by rw [tV,Jf vs,List.length_set]
theorem akV {e:TypeId} {s g n c k:Nat} {xs:List Value} (h:w.ownsRow B e s (.slice (some ⟨g,0,none⟩) n c) n xs) (cs:List Value):(w.setCells g k cs).ownsRow B e s (.slice (some ⟨g,0,none⟩) n c) n (tV xs k cs):=by
 obtain ⟨hl,h | ⟨g',cap,cur,hv,hg,hh,hn,hc,hsz,ht⟩⟩:=h
 ·exact absurd h.1 (by simp)
 injection hv with h1 h2 h3
 injection h1 with h1
 injection h1 with h1 h4 h5
 subst h1;subst h3;have hb:gB w g cur e:=⟨hh⟩;have hb':=jO cs k hb;refine ⟨by rw [Jf];exact hl,.inr ⟨g,c,dG cur k cs,rfl,hg,hb'.blk,hn,hc,by rw [nE];exact hsz,?_⟩⟩;rw [Je,P5,ht]
theorem St.aq0 {e:TypeId} {s g n c k:Nat} {xs:List Value} (i:Nat) (S:St B w0 w fs) (hi:fs[i]? =some (.own e s (.slice (some ⟨g,0,none⟩) n c) n xs)) (cs:List Value):St B w0 (w.setCells g k cs) (fs.set i (.own e s (.slice (some ⟨g,0,none⟩) n c) n (tV xs k cs))):=
 St.aer i S hi (jP g cs k w) (akV (S.own i hi) cs)
theorem St.agE {e:TypeId} {s g n c k m:Nat} {xs:List Value} (i:Nat) (S:St B w0 w fs) (hi:fs[i]? =some (.own e s (.slice (some ⟨g,0,none⟩) n c) n xs)) (hk:k+m<=n*s):w.there g k m:=λj hj=>by
 obtain ⟨hl,h | ⟨g',cap,cur,hv,hg,hh,hn,hc,hsz,ht⟩⟩:=S.own i hi
 ·exact absurd h.1 (by simp)
 injection hv with h1 h2 h3
 injection h1 with h1
 injection h1 with h1 h4 h5
 subst h1;subst h3;have hle:n*s<=c*s:=Nat.mul_le_mul_right s hn;have hlt:k+j<cur.size:=by rw [hsz];omega
 have hb:gB w g cur e:=⟨hh⟩;exact ⟨by rw [hb.cell (k:=k+j) (Array.getElem?_eq_getElem hlt)];rfl,hb.free _⟩
theorem lX {ty e:TypeId} {x y:Operand} {s g n c k m:Nat} {cs:Array Value} {xs xs':List Value} (i:Nat) (S:St B w0 w fs) (hw:Wanted N ops l o true) (hd:o.dst=none) (ho:o.op= .store ty x y) (hx:ev l x=some (.pointer (some ⟨g,k,none⟩))) (hy:ev l y=some v)
  (hi:fs[i]? =some (.own e s (.slice (some ⟨g,0,none⟩) n c) n xs)) (hv:v.cells=cs) (hz:(P.info? ty).map (·.size)=some m) (hm:cs.size=m) (h1: ∀ u∈cs.toList,u.oneCell'=true) (hk:k+m<=n*s) (hxs:tV xs k cs.toList=xs')
  (h: ∀ w',St B w0 w' (fs.set i (.own e s (.slice (some ⟨g,0,none⟩) n c) n xs'))->wL P N ops Q rest l w'):wL P N ops Q (o::rest) l w:=by
 subst hxs;exact PG hw hd (Q9 ho hx hy (Ri hv hz hm h1 (S.agE i hi hk))) (h _ (S.aq0 i hi cs.toList))
theorem JQ {ty t:TypeId} {x y:Operand} {b k:Nat} {u:Value} {row row':Array Value} (i:Nat) (S:St B w0 w fs) (hw:Wanted N ops l o true) (hd:o.dst=none) (ho:o.op= .store ty x y) (hx:ev l x=some (.pointer (some ⟨b,k,none⟩))) (hy:ev l y=some v)
  (hi:fs[i]? =some (.blk b row t)) (hv:v.cells= #[u]) (hz:(P.info? ty).map (·.size)=some 1) (h1:u.oneCell'=true) (hk:k<row.size) (hrow:row.setIfInBounds k u=row')
  (h: ∀ w',St B w0 w' (fs.set i (.blk b row' t))->wL P N ops Q rest l w'):wL P N ops Q (o::rest) l w:=by
 refine F8 i S hw hd ho hx hy hi hv hz rfl (by simpa using h1) (by omega) (row':=row') ?_ rfl h;subst hrow;rfl
end
end Go.Proofs.YtnhimdkpkmbhlaaGreatDoor
