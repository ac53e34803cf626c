import Derived.Test.YthhnonpehllibaaGreatDoorG373d8
import Derived.Test.YthhnonpehllibaaGreatDoorGb1f6f
set_option maxRecDepth 100000
set_option maxHeartbeats 8000000
set_option linter.unusedSimpArgs false
set_option linter.unusedVariables false
namespace Go.Proofs.YthhnonpehllibaaGreatDoor
open ChangeShapes WideShapes RowKit
def II (T:List bK) (q:Int):bK:=T.getD q.toNat bG
noncomputable def nH:List dB->Nat->List bK->Option (List bK)×Nat×Int
 | [],_,T=>(some T,0,0)
 | r::rs,i,T=>if aL r≠0 then (none,i,aL r) else if (dR (II T r.queue) r).2≠0 then (none,i,(dR (II T r.queue) r).2) else nH rs (i+1) (T.set r.queue.toNat (dR (II T r.queue) r).1)
noncomputable def allM (l:List dB):Option (List bK)×Nat×Int:=nH l 0 [bG,bG,bG,bG]
section
variable {l:List dB} {k:Nat} {r:dB} {T:List bK} {R:bK×Int}
theorem drop_cons {α:Type} {l:List α} {k:Nat} {x:α} (h:l[k]? =some x):l.drop k=x::l.drop (k+1):=by
 obtain ⟨hk,rfl⟩:=List.getElem?_eq_some_iff.1 h;exact List.drop_eq_getElem_cons hk
theorem aiN (h:l[k]? =some r) (hf: ¬ aL r=0):nH (l.drop k) k T=(none,k,aL r):=by rw [drop_cons h,nH,if_pos hf]
theorem Yu (h:l[k]? =some r) (hf:aL r=0) (hR:dR (II T r.queue) r=R) (ha: ¬ R.2=0):nH (l.drop k) k T=(none,k,R.2):=by subst hR;rw [drop_cons h,nH,if_neg (by simp [hf]),if_pos ha]
theorem RU (h:l[k]? =some r) (hf:aL r=0) (hR:dR (II T r.queue) r=R) (ha:R.2=0):nH (l.drop k) k T=nH (l.drop (k+1)) (k+1) (T.set r.queue.toNat R.1):=by subst hR;rw [drop_cons h,nH,if_neg (by simp [hf]),if_neg (by simp [ha])]
theorem aiO (h:l.length<=k):nH (l.drop k) k T=(some T,0,0):=by rw [List.drop_of_length_le h,nH]
end
structure BX where
 b:bK
 A:Option Addr
 c:Nat
def BX.cells (x:BX):List Value:=[iV x.b.role,iV x.b.ep,iV x.b.fr,iV x.b.tg,iV x.b.rd,.slice x.A x.b.evs.length x.c]
def P9:BX:=⟨bG,none,0⟩
def sw:List BX:=[P9,P9,P9,P9]
theorem aiP (l:List BX): ∀ u∈l.flatMap BX.cells,u.oneCell'=true:=by
 intro u hu;rw [List.mem_flatMap] at hu;obtain ⟨z,_,hz⟩:=hu;simp [BX.cells] at hz
 rcases hz with rfl | rfl | rfl | rfl | rfl | rfl<;>rfl
def ac6 (x:BX):Fact:= .cu 6 x.A x.b.evs.length (aN x.b.evs)
def fq (bs:List BX):List Fact:=bs.map ac6
section
variable {B:Nat} {w0 w:World} {bs:List BX} {k:Nat} {y:BX}
theorem aiQ {q:Int} (h:bs[q.toNat]? =some y):II (bs.map BX.b) q=y.b:=by
 unfold II;rw [List.getD_eq_getElem?_getD,List.getElem?_map,h];rfl
theorem ac7 (pre:List Fact) (S:St B w0 w (pre++fq bs)) (h:bs[k]? =some y):Rd w w.heap.size 6 y.A y.b.evs.length (aN y.b.evs):=
 St.cu (pre.length+k) S (by rw [List.getElem?_append_right (Nat.le_add_right _ _),Nat.add_sub_cancel_left,fq,List.getElem?_map,h];rfl)
theorem St.pull {fs fs':List Fact} (σ:Nat->Nat) (S:St B w0 w fs) (hs: ∀ (i:Nat) (f:Fact),fs'[i]? =some f->fs[σ i]? =some f) (hi: ∀ i j:Nat,i≠j->i<fs'.length->j<fs'.length->σ i≠σ j):St B w0 w fs':=
 ⟨S.low,S.base,λi f h=>S.all _ f (hs i f h),λi j f g hij h1 h2=>S.sep _ _ f g (hi i j hij (List.getElem?_eq_some_iff.1 h1).1 (List.getElem?_eq_some_iff.1 h2).1) (hs i f h1) (hs j g h2)⟩
theorem ac8 (pre:List Fact) {z:BX} (S:St B w0 w (pre++(ac6 z::fq bs))) (hk:k<bs.length):St B w0 w (pre++fq (bs.set k z)):=by
 refine St.pull (λi=>if i<pre.length then i else if i=pre.length+k then pre.length else i+1) S (λi f h=>?_) (λi j hij _ _=>?_)
 ·by_cases h1:i<pre.length
  ·simp only [if_pos h1];rw [List.getElem?_append_left h1] at h⊢;exact h
  obtain ⟨d,rfl⟩: ∃ d,i=pre.length+d:=⟨i-pre.length,by omega⟩;rw [List.getElem?_append_right (Nat.le_add_right _ _),Nat.add_sub_cancel_left,fq,List.map_set,List.getElem?_set] at h;simp only [if_neg h1];by_cases h2:k=d
  ·subst h2;rw [if_pos rfl] at h;rw [if_pos rfl,List.getElem?_append_right (Nat.le_refl _),Nat.sub_self];rw [List.length_map,if_pos hk] at h;exact h
  rw [if_neg h2] at h;rw [if_neg (by omega),List.getElem?_append_right (by omega),show pre.length+d+1-pre.length=d+1 from by omega];exact h
 repeat' split
 all_goals omega
theorem aiR {f1 f2:Fact} (S:St B w0 w [f1,f2]):St B w0 w (f1::f2::fq sw):=(aF (s:=6) (aF (s:=6) (aF (s:=6) (aF (s:=6) S)))).re [4,5,0,1,2,3] (by decide)
end
theorem qd {α:Type} {enc:α->List Value} {sz:Nat} (hsz: ∀ x,(enc x).length=sz) (z:α): ∀ (k:Nat) (l:List α),k<l.length->rT (l.flatMap enc) (k*sz) (enc z)=(l.set k z).flatMap enc
 | _,[],h=>absurd h (Nat.not_lt_zero _)
 | 0,x::l,_=>by
  rw [List.flatMap_cons,Nat.zero_mul,List.set_cons_zero,List.flatMap_cons];have: ∀ (vs us xs:List Value),us.length=vs.length->rT (us++xs) 0 vs=vs++xs:=by
   have gen: ∀ (vs us ps xs:List Value),us.length=vs.length->rT (ps++(us++xs)) ps.length vs=ps++(vs++xs):=by
    intro vs
    induction vs with
    | nil=>intro us ps xs h;rw [List.length_eq_zero_iff.1 h];rfl
    | cons v vs ih=>
     intro us ps xs h;obtain ⟨u,us,rfl⟩: ∃ u us',us=u::us':=by
      cases us with
      | nil=>simp at h
      | cons u us=>exact ⟨u,us,rfl⟩
     rw [rT];have e:(ps++(u::us++xs)).set ps.length v=(ps++[v])++(us++xs):=by simp
     rw [e];have:=ih us (ps++[v]) xs (by simpa using h);rw [List.length_append] at this;rw [show ps.length+1=ps.length+[v].length from rfl,this];simp
   intro vs us xs h;exact gen vs us [] xs h
  exact this _ _ _ (by rw [hsz,hsz])
 | k+1,x::l,h=>by
  rw [List.flatMap_cons,List.set_cons_succ,List.flatMap_cons,<-qd hsz z k l (by simpa using h)];have gen: ∀ (vs us xs:List Value) (j:Nat),rT (us++xs) (us.length+j) vs=us++rT xs j vs:=by
   intro vs
   induction vs with
   | nil=>intro us xs j;rfl
   | cons v vs ih=>
    intro us xs j;rw [rT,rT,List.set_append_right _ _ (Nat.le_add_right _ _),Nat.add_sub_cancel_left,Nat.add_assoc,ih]
  rw [Nat.succ_mul,Nat.add_comm,<-hsz x,gen]
def aoO (w:World) (R:Option (List bK)×Nat×Int) (e:Ending) (w':World):Prop:=
 (R.1=none->e= .returned (.tuple #[.slice none 0 0,iV ((R.2.1:Nat):Int),iV R.2.2])/\Below w.heap.size w w')/\
 (∀ T,R.1=some T-> ∃ b bs,bs.map BX.b=T/\bs.length=4/\(∀ y∈bs,y.b.evs.length<=y.c)/\e= .returned (.tuple #[.slice (some ⟨b,0,none⟩) 4 4,iV ((R.2.1:Nat):Int),iV R.2.2])/\St w.heap.size w w' (.own 43 6 (.slice (some ⟨b,0,none⟩) 4 4) 4 (bs.flatMap BX.cells)::fq bs))
theorem aah {b:bK} {r:dB}:(dR b r).1.evs.length<=b.evs.length+1:=by
 have h:=Ef (b:=b) (r:=r);unfold dR
 repeat' split
 all_goals first | exact h | simp [bG]
end Go.Proofs.YthhnonpehllibaaGreatDoor
