import Derived.Scope
import Derived.Test.YthhnonpehllibaaGreatDoorGd6a48
set_option maxRecDepth 100000
set_option maxHeartbeats 8000000
set_option linter.unusedSimpArgs false
set_option linter.unusedVariables false
namespace Go.Proofs.YthhnonpehllibaaGreatDoor
open ChangeShapes WideShapes ChangeAt RowKit
section
variable {P:Program} {N:Nat} {l:Slots} {w w' w0:World} {B:Nat} {fs fs':List Fact} {ops:Array Oper} {o:Oper} {rest:List Oper} {Q:Exit->Act->World->Prop} {v:Value}
def rT:List Value->Nat->List Value->List Value
 | xs,_,[]=>xs
 | xs,k,v::vs=>rT (xs.set k v) (k+1) vs
theorem GR: ∀ (vs:List Value) (cur:Array Value) (k:Nat),(cK cur k vs).toList=rT cur.toList k vs
 | [],_,_=>rfl
 | v::vs,cur,k=>by rw [cK,rT,GR vs,Array.toList_setIfInBounds]
theorem Nf (m:Nat): ∀ (vs xs:List Value) (k:Nat),(rT xs k vs).take m=rT (xs.take m) k vs
 | [],_,_=>rfl
 | v::vs,xs,k=>by rw [rT,rT,Nf m vs,List.take_set]
theorem GU: ∀ (vs xs:List Value) (k:Nat),(rT xs k vs).length=xs.length
 | [],_,_=>rfl
 | v::vs,xs,k=>by rw [rT,GU vs,List.length_set]
theorem ah8 {e:TypeId} {s g n c k:Nat} {xs:List Value} (h:w.ownsRow B e s (.slice (some ⟨g,0,none⟩) n c) n xs) (cs:List Value):(w.setCells g k cs).ownsRow B e s (.slice (some ⟨g,0,none⟩) n c) n (rT xs k cs):=by
 obtain ⟨hl,h | ⟨g',cap,cur,hv,hg,hh,hn,hc,hsz,ht⟩⟩:=h
 ·exact absurd h.1 (by simp)
 injection hv with h1 h2 h3
 injection h1 with h1
 injection h1 with h1 h4 h5
 subst h1;subst h3;have hb:fQ w g cur e:=⟨hh⟩;have hb':=jA cs k hb;refine ⟨by rw [GU];exact hl,.inr ⟨g,c,cK cur k cs,rfl,hg,hb'.blk,hn,hc,by rw [mQ];exact hsz,?_⟩⟩;rw [GR,Nf,ht]
theorem St.aoe {e:TypeId} {s g n c k:Nat} {xs:List Value} (i:Nat) (S:St B w0 w fs) (hi:fs[i]? =some (.own e s (.slice (some ⟨g,0,none⟩) n c) n xs)) (cs:List Value):St B w0 (w.setCells g k cs) (fs.set i (.own e s (.slice (some ⟨g,0,none⟩) n c) n (rT xs k cs))):=
 St.abU i S hi (jB g cs k w) (ah8 (S.own i hi) cs)
theorem St.aea {e:TypeId} {s g n c k m:Nat} {xs:List Value} (i:Nat) (S:St B w0 w fs) (hi:fs[i]? =some (.own e s (.slice (some ⟨g,0,none⟩) n c) n xs)) (hk:k+m<=n*s):w.there g k m:=λj hj=>by
 obtain ⟨hl,h | ⟨g',cap,cur,hv,hg,hh,hn,hc,hsz,ht⟩⟩:=S.own i hi
 ·exact absurd h.1 (by simp)
 injection hv with h1 h2 h3
 injection h1 with h1
 injection h1 with h1 h4 h5
 subst h1;subst h3;have hle:n*s<=c*s:=Nat.mul_le_mul_right s hn;have hlt:k+j<cur.size:=by rw [hsz];omega
 have hb:fQ w g cur e:=⟨hh⟩;exact ⟨by rw [hb.cell (k:=k+j) (Array.getElem?_eq_getElem hlt)];rfl,hb.free _⟩
theorem kZ {ty e:TypeId} {x y:Operand} {s g n c k m:Nat} {cs:Array Value} {xs xs':List Value} (i:Nat) (S:St B w0 w fs) (hw:Wanted N ops l o true) (hd:o.dst=none) (ho:o.op= .store ty x y) (hx:ev l x=some (.pointer (some ⟨g,k,none⟩))) (hy:ev l y=some v)
  (hi:fs[i]? =some (.own e s (.slice (some ⟨g,0,none⟩) n c) n xs)) (hv:v.cells=cs) (hz:(P.info? ty).map (·.size)=some m) (hm:cs.size=m) (h1: ∀ u∈cs.toList,u.oneCell'=true) (hk:k+m<=n*s) (hxs:rT xs k cs.toList=xs')
  (h: ∀ w',St B w0 w' (fs.set i (.own e s (.slice (some ⟨g,0,none⟩) n c) n xs'))->wL P N ops Q rest l w'):wL P N ops Q (o::rest) l w:=by
 subst hxs;exact M4 hw hd (Ow ho hx hy (OD hv hz hm h1 (S.aea i hi hk))) (h _ (S.aoe i hi cs.toList))
theorem Ik {ty t:TypeId} {x y:Operand} {b k:Nat} {u:Value} {row row':Array Value} (i:Nat) (S:St B w0 w fs) (hw:Wanted N ops l o true) (hd:o.dst=none) (ho:o.op= .store ty x y) (hx:ev l x=some (.pointer (some ⟨b,k,none⟩))) (hy:ev l y=some v)
  (hi:fs[i]? =some (.blk b row t)) (hv:v.cells= #[u]) (hz:(P.info? ty).map (·.size)=some 1) (h1:u.oneCell'=true) (hk:k<row.size) (hrow:row.setIfInBounds k u=row')
  (h: ∀ w',St B w0 w' (fs.set i (.blk b row' t))->wL P N ops Q rest l w'):wL P N ops Q (o::rest) l w:=by
 refine EJ i S hw hd ho hx hy hi hv hz rfl (by simpa using h1) (by omega) (row':=row') ?_ rfl h;subst hrow;rfl
end
end Go.Proofs.YthhnonpehllibaaGreatDoor
