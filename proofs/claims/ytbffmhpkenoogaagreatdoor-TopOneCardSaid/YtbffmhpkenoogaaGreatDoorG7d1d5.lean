import Derived.Scope
import Derived.Test.YtbffmhpkenoogaaGreatDoorG3c475
set_option maxRecDepth 100000
set_option maxHeartbeats 8000000
namespace Go.Proofs.YtbffmhpkenoogaaGreatDoor
open ChangeShapes WideShapes ChangeAt RowKit
section
variable {P:Program} {N:Nat} {l:Slots} {w w' w0:World} {B:Nat} {fs fs':List Fact} {ops:Array Oper} {o:Oper} {rest:List Oper} {Q:Exit->Act->World->Prop} {v:Value}
def q9:List Value->Nat->List Value->List Value
 | xs,_,[]=>xs
 | xs,k,v::vs=>q9 (xs.set k v) (k+1) vs
theorem FN: ∀ (vs:List Value) (cur:Array Value) (k:Nat),(bZ cur k vs).toList=q9 cur.toList k vs
 | [],_,_=>rfl
 | v::vs,cur,k=>by rw [bZ,q9,FN vs,Array.toList_setIfInBounds]
theorem Lu (m:Nat): ∀ (vs xs:List Value) (k:Nat),(q9 xs k vs).take m=q9 (xs.take m) k vs
 | [],_,_=>rfl
 | v::vs,xs,k=>by rw [q9,q9,Lu m vs,List.take_set]
theorem FP: ∀ (vs xs:List Value) (k:Nat),(q9 xs k vs).length=xs.length
 | [],_,_=>rfl
 | v::vs,xs,k=>by rw [q9,FP vs,List.length_set]
theorem afO {e:TypeId} {s g n c k:Nat} {xs:List Value} (h:w.ownsRow B e s (.slice (some ⟨g,0,none⟩) n c) n xs) (cs:List Value):(w.setCells g k cs).ownsRow B e s (.slice (some ⟨g,0,none⟩) n c) n (q9 xs k cs):=by
 obtain ⟨hl,h | ⟨g',cap,cur,hv,hg,hh,hn,hc,hsz,ht⟩⟩:=h
 ·exact absurd h.1 (by simp)
 injection hv with h1 h2 h3
 injection h1 with h1
 injection h1 with h1 h4 h5
 subst h1;subst h3;have hb:fE w g cur e:=⟨hh⟩;have hb':=jk cs k hb;refine ⟨by rw [FP];exact hl,.inr ⟨g,c,bZ cur k cs,rfl,hg,hb'.blk,hn,hc,by rw [mq];exact hsz,?_⟩⟩;rw [FN,Lu,ht]
theorem St.ala {e:TypeId} {s g n c k:Nat} {xs:List Value} (i:Nat) (S:St B w0 w fs) (hi:fs[i]? =some (.own e s (.slice (some ⟨g,0,none⟩) n c) n xs)) (cs:List Value):St B w0 (w.setCells g k cs) (fs.set i (.own e s (.slice (some ⟨g,0,none⟩) n c) n (q9 xs k cs))):=
 St.aaI i S hi (jl g cs k w) (afO (S.own i hi) cs)
theorem St.acn {e:TypeId} {s g n c k m:Nat} {xs:List Value} (i:Nat) (S:St B w0 w fs) (hi:fs[i]? =some (.own e s (.slice (some ⟨g,0,none⟩) n c) n xs)) (hk:k+m<=n*s):w.there g k m:=λj hj=>by
 obtain ⟨hl,h | ⟨g',cap,cur,hv,hg,hh,hn,hc,hsz,ht⟩⟩:=S.own i hi
 ·exact absurd h.1 (by simp)
 injection hv with h1 h2 h3
 injection h1 with h1
 injection h1 with h1 h4 h5
 subst h1;subst h3;have hle:n*s<=c*s:=Nat.mul_le_mul_right s hn;have hlt:k+j<cur.size:=by rw [hsz];omega
 have hb:fE w g cur e:=⟨hh⟩;exact ⟨by rw [hb.cell (k:=k+j) (Array.getElem?_eq_getElem hlt)];rfl,hb.free _⟩
theorem kQ {ty e:TypeId} {x y:Operand} {s g n c k m:Nat} {cs:Array Value} {xs xs':List Value} (i:Nat) (S:St B w0 w fs) (hw:Wanted N ops l o true) (hd:o.dst=none) (ho:o.op= .store ty x y) (hx:ev l x=some (.pointer (some ⟨g,k,none⟩))) (hy:ev l y=some v)
  (hi:fs[i]? =some (.own e s (.slice (some ⟨g,0,none⟩) n c) n xs)) (hv:v.cells=cs) (hz:(P.info? ty).map (·.size)=some m) (hm:cs.size=m) (h1: ∀ u∈cs.toList,u.oneCell'=true) (hk:k+m<=n*s) (hxs:q9 xs k cs.toList=xs')
  (h: ∀ w',St B w0 w' (fs.set i (.own e s (.slice (some ⟨g,0,none⟩) n c) n xs'))->wL P N ops Q rest l w'):wL P N ops Q (o::rest) l w:=by
 subst hxs;exact Lf hw hd (MS ho hx hy (M0 hv hz hm h1 (S.acn i hi hk))) (h _ (S.ala i hi cs.toList))
theorem Gx {ty t:TypeId} {x y:Operand} {b k:Nat} {u:Value} {row row':Array Value} (i:Nat) (S:St B w0 w fs) (hw:Wanted N ops l o true) (hd:o.dst=none) (ho:o.op= .store ty x y) (hx:ev l x=some (.pointer (some ⟨b,k,none⟩))) (hy:ev l y=some v)
  (hi:fs[i]? =some (.blk b row t)) (hv:v.cells= #[u]) (hz:(P.info? ty).map (·.size)=some 1) (h1:u.oneCell'=true) (hk:k<row.size) (hrow:row.setIfInBounds k u=row')
  (h: ∀ w',St B w0 w' (fs.set i (.blk b row' t))->wL P N ops Q rest l w'):wL P N ops Q (o::rest) l w:=by
 refine DU i S hw hd ho hx hy hi hv hz rfl (by simpa using h1) (by omega) (row':=row') ?_ rfl h;subst hrow;rfl
end
end Go.Proofs.YtbffmhpkenoogaaGreatDoor
