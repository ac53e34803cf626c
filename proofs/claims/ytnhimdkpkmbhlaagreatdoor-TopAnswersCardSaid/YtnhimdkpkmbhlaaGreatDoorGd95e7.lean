import Derived.Laws.IdiomCopy
import Derived.Test.YtnhimdkpkmbhlaaGreatDoorGaee60
set_option maxRecDepth 100000
set_option maxHeartbeats 8000000
set_option linter.unusedSimpArgs false
set_option linter.unusedVariables false
namespace Go.Proofs.YtnhimdkpkmbhlaaGreatDoor
open ChangeShapes WideShapes RowKit
def dn:Array Value->Nat->List Value->Array Value
 | cur,_,[]=>cur
 | cur,o,v::vs=>dn (cur.setIfInBounds o v) (o+1) vs
theorem mJ: ∀ (vs:List Value) (cur:Array Value) (o:Nat),(dn cur o vs).size=cur.size
 | [],_,_=>rfl
 | v::vs,cur,o=>by rw [dn,mJ vs];simp
theorem Jf: ∀ (vs:List Value) (cur:Array Value) (o k:Nat),o+vs.length<=cur.size->(dn cur o vs)[k]? =if k<o then cur[k]? else if k<o+vs.length then vs[k-o]? else cur[k]?
 | [],cur,o,k,_=>by
  simp only [dn,List.length_nil,Nat.add_zero]
  split
  ·rfl
  rfl
 | v::vs,cur,o,k,h=>by
  simp only [List.length_cons] at h;rw [dn,Jf vs _ _ _ (by simp;omega)];by_cases h1:k<o
  ·rw [if_pos (by omega),if_pos h1,Array.getElem?_setIfInBounds_ne (by omega)]
  by_cases h2:k=o
  ·subst h2;rw [if_pos (by omega),if_neg h1,if_pos (by simp)];rw [Array.getElem?_setIfInBounds_self_of_lt (by omega)];simp
  rw [if_neg (by omega),if_neg h1];by_cases h3:k<o+1+vs.length
  ·rw [if_pos h3,if_pos (by simp;omega),show k-o=(k-(o+1))+1 by omega];simp
  rw [if_neg h3,if_neg (by simp;omega),Array.getElem?_setIfInBounds_ne (by omega)]
theorem gQ (vs:List Value) (cur:Array Value) (o:Nat) (h:o+vs.length<=cur.size):(dn cur o vs).toList=cur.toList.take o++vs++cur.toList.drop (o+vs.length):=by
 apply List.ext_getElem?;intro k;rw [Array.getElem?_toList,Jf vs cur o k h];have hl:(cur.toList.take o).length=o:=by simp;omega
 by_cases h1:k<o
 ·rw [if_pos h1,List.append_assoc,List.getElem?_append_left (by omega),List.getElem?_take_of_lt h1];simp
 rw [if_neg h1];by_cases h2:k<o+vs.length
 ·rw [if_pos h2,List.append_assoc,List.getElem?_append_right (by omega),List.getElem?_append_left (by omega),hl]
 rw [if_neg h2,List.getElem?_append_right (by simp;omega),List.getElem?_drop];simp only [List.length_append,hl];rw [show o+vs.length+(k-(o+vs.length))=k by omega];simp
theorem jq {t:TypeId}: ∀ (vs:List Value) (o:Nat) {w:World} {g:Nat} {cur:Array Value},fK w g cur t->fK (w.setCells g o vs) g (dn cur o vs) t
 | [],_,_,_,_,h=>h
 | v::vs,o,_,_,_,h=>jq vs (o+1) (h.uM o v)
theorem sw.refl (w:World) (g:Nat):sw w g w:=⟨rfl,rfl,rfl,rfl,λ_ _=>rfl⟩
theorem jr (g:Nat): ∀ (vs:List Value) (o:Nat) (w:World),sw w g (w.setCells g o vs)
 | [],_,w=>sw.refl w g
 | v::vs,o,w=>(CJ w g o v).trans (jr g vs (o+1) _)
end Go.Proofs.YtnhimdkpkmbhlaaGreatDoor
