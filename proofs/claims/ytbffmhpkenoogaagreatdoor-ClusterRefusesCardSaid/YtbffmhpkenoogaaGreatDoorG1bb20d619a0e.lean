/- Parts of proofs: lemmas on memory, on single functions and on the plain models; no condition of their own. -/
import Derived.Scope
import Derived.Test.YtbffmhpkenoogaaGreatDoorG2ac182bd2af5
set_option linter.unusedVariables false
set_option linter.unusedSimpArgs false
set_option linter.unnecessarySimpa false
set_option maxRecDepth 100000
set_option maxHeartbeats 8000000

namespace Go.Proofs.YtbffmhpkenoogaaGreatDoor
open Go.ChangeShapes Go.WideShapes Go.ChangeAt Go.RowKit
section
variable {P:Program} {N:Nat} {l:Slots} {w w' w0:World} {B:Nat} {fs fs':List Fact} {ops:Array Oper} {o:Oper} {rest:List Oper} {Q:Exit→Act→World→Prop} {v:Value}
def qC:List Value→Nat→List Value→List Value
 | xs,_,[]=>xs
 | xs,k,v::vs=>qC (xs.set k v) (k+1) vs
theorem Ec: ∀ (vs:List Value) (cur:Array Value) (k:Nat),(bX cur k vs).toList=qC cur.toList k vs
 | [],_,_=>rfl
 | v::vs,cur,k=>by rw [bX,qC,Ec vs,Array.toList_setIfInBounds]
theorem JJ (m:Nat): ∀ (vs xs:List Value) (k:Nat),(qC xs k vs).take m=qC (xs.take m) k vs
 | [],_,_=>rfl
 | v::vs,xs,k=>by rw [qC,qC,JJ m vs,List.take_set]
theorem Ed: ∀ (vs xs:List Value) (k:Nat),(qC xs k vs).length=xs.length
 | [],_,_=>rfl
 | v::vs,xs,k=>by rw [qC,Ed vs,List.length_set]
theorem aeC {e:TypeId} {s g n c k:Nat} {xs:List Value} (h:w.ownsRow B e s (.slice (some ⟨g,0,none⟩) n c) n xs) (cs:List Value):(w.setCells g k cs).ownsRow B e s (.slice (some ⟨g,0,none⟩) n c) n (qC xs k cs):=by
 obtain ⟨hl,h | ⟨g',cap,cur,hv,hg,hh,hn,hc,hsz,ht⟩⟩:=h
 ·exact absurd h.1 (by simp)
 injection hv with h1 h2 h3
 injection h1 with h1
 injection h1 with h1 h4 h5
 subst h1;subst h3;have hb:eP w g cur e:=⟨hh⟩;have hb':=iZ cs k hb;refine ⟨by rw [Ed];exact hl,.inr ⟨g,c,bX cur k cs,rfl,hg,hb'.blk,hn,hc,by rw [lV];exact hsz,?_⟩⟩;rw [Ec,JJ,ht]
theorem St.akg {e:TypeId} {s g n c k:Nat} {xs:List Value} (i:Nat) (S:St B w0 w fs) (hi:fs[i]? =some (.own e s (.slice (some ⟨g,0,none⟩) n c) n xs)) (cs:List Value):St B w0 (w.setCells g k cs) (fs.set i (.own e s (.slice (some ⟨g,0,none⟩) n c) n (qC xs k cs))):=
 St.YE i S hi (jc g cs k w) (aeC (S.own i hi) cs)
theorem St.aaM {e:TypeId} {s g n c k m:Nat} {xs:List Value} (i:Nat) (S:St B w0 w fs) (hi:fs[i]? =some (.own e s (.slice (some ⟨g,0,none⟩) n c) n xs)) (hk:k+m≤n*s):w.there g k m:=fun j hj=>by
 obtain ⟨hl,h | ⟨g',cap,cur,hv,hg,hh,hn,hc,hsz,ht⟩⟩:=S.own i hi
 ·exact absurd h.1 (by simp)
 injection hv with h1 h2 h3
 injection h1 with h1
 injection h1 with h1 h4 h5
 subst h1;subst h3;have hle:n*s≤c*s:=Nat.mul_le_mul_right s hn;have hlt:k+j<cur.size:=by rw [hsz];omega
 have hb:eP w g cur e:=⟨hh⟩;exact ⟨by rw [hb.cell (k:=k+j) (Array.getElem?_eq_getElem hlt)];rfl,hb.free _⟩
theorem kJ {ty e:TypeId} {x y:Operand} {s g n c k m:Nat} {cs:Array Value} {xs xs':List Value} (i:Nat) (S:St B w0 w fs) (hw:Wanted N ops l o true) (hd:o.dst=none) (ho:o.op= .store ty x y) (hx:ev l x=some (.pointer (some ⟨g,k,none⟩))) (hy:ev l y=some v)
  (hi:fs[i]? =some (.own e s (.slice (some ⟨g,0,none⟩) n c) n xs)) (hv:v.cells=cs) (hz:(P.info? ty).map (·.size)=some m) (hm:cs.size=m) (h1: ∀ u∈cs.toList,u.oneCell'=true) (hk:k+m≤n*s) (hxs:qC xs k cs.toList=xs')
  (h: ∀ w',St B w0 w' (fs.set i (.own e s (.slice (some ⟨g,0,none⟩) n c) n xs'))→wL P N ops Q rest l w'):wL P N ops Q (o::rest) l w:=by
 subst hxs;exact JC hw hd (KM ho hx hy (KS hv hz hm h1 (S.aaM i hi hk))) (h _ (S.akg i hi cs.toList))
theorem ES {ty t:TypeId} {x y:Operand} {b k:Nat} {u:Value} {row row':Array Value} (i:Nat) (S:St B w0 w fs) (hw:Wanted N ops l o true) (hd:o.dst=none) (ho:o.op= .store ty x y) (hx:ev l x=some (.pointer (some ⟨b,k,none⟩))) (hy:ev l y=some v)
  (hi:fs[i]? =some (.blk b row t)) (hv:v.cells= #[u]) (hz:(P.info? ty).map (·.size)=some 1) (h1:u.oneCell'=true) (hk:k<row.size) (hrow:row.setIfInBounds k u=row')
  (h: ∀ w',St B w0 w' (fs.set i (.blk b row' t))→wL P N ops Q rest l w'):wL P N ops Q (o::rest) l w:=by
 refine EA i S hw hd ho hx hy hi hv hz rfl (by simpa using h1) (by omega) (row':=row') ?_ rfl h;subst hrow;rfl
end
end Go.Proofs.YtbffmhpkenoogaaGreatDoor
