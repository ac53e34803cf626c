import Derived.Laws.BitsAllLaws
import Derived.Shelf.SlSortCmp.WholeK
import Derived.Shelf.SlSortCmp.NoneTotal
import Derived.Test.YtnhimdkpkmbhlaaGreatDoorGd6224
set_option maxRecDepth 100000
set_option maxHeartbeats 8000000
set_option linter.unusedSimpArgs false
set_option linter.unusedVariables false
namespace Go.Proofs.YtnhimdkpkmbhlaaGreatDoor
open ChangeShapes WideShapes ChangeAt RowKit
open Go.Sort (flatK HoldsK get_flatK size_flatK)
section
variable {α:Type} [Inhabited α] {enc:α->List Value} {k:Nat}
theorem Wu (hk: ∀ x,(enc x).length=k) (d:Array α) {t:Nat} (h:t<d.size*k):(d.toList.flatMap enc)[t]? =some ((flatK enc k d)[t]!):=by
 have hk0:0<k:=by
  rcases Nat.eq_zero_or_pos k with h0 | h0
  ·subst h0;omega
  exact h0
 have h1:t / k<d.size:=Nat.div_lt_of_lt_mul (by rw [Nat.mul_comm];exact h);have h2:t % k<k:=Nat.mod_lt _ hk0;rw [get_flatK enc k d t h];have h3:d.toList[t / k]? =some d[t / k]! :=by rw [getElem!_pos d (t / k) h1];simp [h1]
 have h4:(enc d[t / k]!)[t % k]? =some (enc d[t / k]!)[t % k]! :=by
  have:t % k< (enc d[t / k]!).length:=by rw [hk];exact h2
  rw [getElem!_pos (enc d[t / k]!) (t % k) this];exact List.getElem?_eq_getElem this
 have h5:=bC hk h3 h4;rw [Nat.mul_comm,Nat.div_add_mod] at h5;exact h5
theorem X0 {w:World} {B g n c e:Nat} {l:List α} (hk: ∀ x,(enc x).length=k) (ho:w.ownsRow B e k (.slice (some ⟨g,0,none⟩) n c) n (l.flatMap enc)) (hl:l.length=n):HoldsK enc k w g 0 l.toArray:=by
 obtain ⟨h1,h2⟩:=ho;intro j hj;rw [size_flatK] at hj
 rcases h2 with ⟨h2,_⟩ | ⟨g',cap,cur,hv,hb,hh,hnc,hcm,hsz,htk⟩
 ·cases h2
 injection hv with hv1
 injection hv1 with hv1
 injection hv1 with hv1
 subst hv1;have h3:=Wu hk l.toArray hj;rw [show l.toArray.toList=l by simp,<-htk,List.getElem?_take_of_lt (by simp at hj;rw [hl] at hj;exact hj)] at h3;refine ⟨?_,by simp [World.frozen?,hh]⟩;simp only [Nat.zero_add,World.cell?,hh];simpa using h3
theorem UL {w:World} {B g n c e m:Nat} {l:List α} {d':Array α} {os:Array Obj} (hk: ∀ x,(enc x).length=k) (ho:w.ownsRow B e k (.slice (some ⟨g,0,none⟩) n c) n (l.flatMap enc)) (hd:d'.size=n):
  (sortWorldK enc k w g 0 m d' os).ownsRow B e k (.slice (some ⟨g,0,none⟩) n c) n (d'.toList.flatMap enc)/\w.grownBy (sortWorldK enc k w g 0 m d' os) (some g):=by
 obtain ⟨h1,h2⟩:=ho
 rcases h2 with ⟨h2,_⟩ | ⟨g',cap,cur,hv,hb,hh,hnc,hcm,hsz,htk⟩
 ·cases h2
 have e1:g=g':=by injection hv with hv1;injection hv1 with hv1;injection hv1
 subst e1;have e2:c=cap:=by injection hv
 subst e2;have hg:g<w.heap.size:=(Array.getElem?_eq_some_iff.1 hh).1;have hW:(sortWorldK enc k w g 0 m d' os).heap=(w.heap.modify g (Sort.onCells (Sort.putCells id 0 (flatK enc k d'))))++os:=rfl;have hlen:(d'.toList.flatMap enc).length=n*k:=by rw [gX hk,Array.length_toList,hd]
 refine ⟨⟨hlen,.inr ⟨g,c,Sort.putCells id 0 (flatK enc k d') cur,rfl,hb,?_,hnc,hcm,?_,?_⟩⟩,⟨rfl,rfl,rfl,?_,λj hj hne=>?_⟩⟩
 ·rw [hW,Array.getElem?_append_left (by simpa using hg),Array.getElem?_modify,if_pos rfl,hh];rfl
 ·simp [Sort.putCells,hsz]
 ·refine List.ext_getElem? λt=>?_;by_cases ht:t<n*k
  ·rw [List.getElem?_take_of_lt ht,Wu hk d' (by rw [hd];exact ht)];have htc:t<cur.size:=by rw [hsz];exact Nat.lt_of_lt_of_le ht (Nat.mul_le_mul_right _ hnc)
   simp [Sort.putCells,htc,hd,ht]
  rw [List.getElem?_eq_none (by rw [List.length_take];omega),List.getElem?_eq_none (by rw [hlen];omega)]
 ·rw [hW];simp
 rw [hW,Array.getElem?_append_left (by simpa using hj),Array.getElem?_modify,if_neg (λh=>hne (by rw [h]))]
end
end Go.Proofs.YtnhimdkpkmbhlaaGreatDoor
