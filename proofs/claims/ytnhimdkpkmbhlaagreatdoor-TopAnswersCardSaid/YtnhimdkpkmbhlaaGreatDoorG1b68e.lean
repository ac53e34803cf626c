import Derived.Test.YtnhimdkpkmbhlaaGreatDoorG84838
import Derived.Test.YtnhimdkpkmbhlaaGreatDoorG8afc7
set_option maxRecDepth 100000
set_option maxHeartbeats 8000000
set_option linter.unusedSimpArgs false
set_option linter.unusedVariables false
namespace Go.Proofs.YtnhimdkpkmbhlaaGreatDoor
open ChangeShapes WideShapes RowKit
def GQ (T:List bI) (q:Int):bI:=T.getD q.toNat bG
noncomputable def nu:List dM->Nat->List bI->Option (List bI)×Nat×Int
 | [],_,T=>(some T,0,0)
 | r::rs,i,T=>if aM r≠0 then (none,i,aM r) else if (dX (GQ T r.queue) r).2≠0 then (none,i,(dX (GQ T r.queue) r).2) else nu rs (i+1) (T.set r.queue.toNat (dX (GQ T r.queue) r).1)
noncomputable def allM (l:List dM):Option (List bI)×Nat×Int:=nu l 0 [bG,bG,bG,bG]
section
variable {l:List dM} {k:Nat} {r:dM} {T:List bI} {R:bI×Int}
theorem drop_cons {α:Type} {l:List α} {k:Nat} {x:α} (h:l[k]? =some x):l.drop k=x::l.drop (k+1):=by
 obtain ⟨hk,rfl⟩:=List.getElem?_eq_some_iff.1 h;exact List.drop_eq_getElem_cons hk
theorem ag9 (h:l[k]? =some r) (hf: ¬ aM r=0):nu (l.drop k) k T=(none,k,aM r):=by rw [drop_cons h,nu,if_pos hf]
theorem WL (h:l[k]? =some r) (hf:aM r=0) (hR:dX (GQ T r.queue) r=R) (ha: ¬ R.2=0):nu (l.drop k) k T=(none,k,R.2):=by subst hR;rw [drop_cons h,nu,if_neg (by simp [hf]),if_pos ha]
theorem PZ (h:l[k]? =some r) (hf:aM r=0) (hR:dX (GQ T r.queue) r=R) (ha:R.2=0):nu (l.drop k) k T=nu (l.drop (k+1)) (k+1) (T.set r.queue.toNat R.1):=by subst hR;rw [drop_cons h,nu,if_neg (by simp [hf]),if_neg (by simp [ha])]
theorem aha (h:l.length<=k):nu (l.drop k) k T=(some T,0,0):=by rw [List.drop_of_length_le h,nu]
end
structure BX where
 b:bI
 A:Option Addr
 c:Nat
def BX.cells (x:BX):List Value:=[iV x.b.role,iV x.b.ep,iV x.b.fr,iV x.b.tg,iV x.b.rd,.slice x.A x.b.evs.length x.c]
def Oi:BX:=⟨bG,none,0⟩
def ru:List BX:=[Oi,Oi,Oi,Oi]
theorem ahb (l:List BX): ∀ u∈l.flatMap BX.cells,u.oneCell'=true:=by
 intro u hu;rw [List.mem_flatMap] at hu;obtain ⟨z,_,hz⟩:=hu;simp [BX.cells] at hz
 rcases hz with rfl | rfl | rfl | rfl | rfl | rfl<;>rfl
def abA (x:BX):Fact:= .cZ 6 x.A x.b.evs.length (bg x.b.evs)
def eP (bs:List BX):List Fact:=bs.map abA
section
variable {B:Nat} {w0 w:World} {bs:List BX} {k:Nat} {y:BX}
theorem ahc {q:Int} (h:bs[q.toNat]? =some y):GQ (bs.map BX.b) q=y.b:=by
 unfold GQ;rw [List.getD_eq_getElem?_getD,List.getElem?_map,h];rfl
theorem abB (pre:List Fact) (S:St B w0 w (pre++eP bs)) (h:bs[k]? =some y):Rd w w.heap.size 6 y.A y.b.evs.length (bg y.b.evs):=
 St.cZ (pre.length+k) S (by rw [List.getElem?_append_right (Nat.le_add_right _ _),Nat.add_sub_cancel_left,eP,List.getElem?_map,h];rfl)
theorem St.pull {fs fs':List Fact} (σ:Nat->Nat) (S:St B w0 w fs) (hs: ∀ (i:Nat) (f:Fact),fs'[i]? =some f->fs[σ i]? =some f) (hi: ∀ i j:Nat,i≠j->i<fs'.length->j<fs'.length->σ i≠σ j):St B w0 w fs':=
 ⟨S.low,S.base,λi f h=>S.all _ f (hs i f h),λi j f g hij h1 h2=>S.sep _ _ f g (hi i j hij (List.getElem?_eq_some_iff.1 h1).1 (List.getElem?_eq_some_iff.1 h2).1) (hs i f h1) (hs j g h2)⟩
theorem abC (pre:List Fact) {z:BX} (S:St B w0 w (pre++(abA z::eP bs))) (hk:k<bs.length):St B w0 w (pre++eP (bs.set k z)):=by
 refine St.pull (λi=>if i<pre.length then i else if i=pre.length+k then pre.length else i+1) S (λi f h=>?_) (λi j hij _ _=>?_)
 ·by_cases h1:i<pre.length
  ·simp only [if_pos h1];rw [List.getElem?_append_left h1] at h⊢;exact h
  obtain ⟨d,rfl⟩: ∃ d,i=pre.length+d:=⟨i-pre.length,by omega⟩;rw [List.getElem?_append_right (Nat.le_add_right _ _),Nat.add_sub_cancel_left,eP,List.map_set,List.getElem?_set] at h;simp only [if_neg h1];by_cases h2:k=d
  ·subst h2;rw [if_pos rfl] at h;rw [if_pos rfl,List.getElem?_append_right (Nat.le_refl _),Nat.sub_self];rw [List.length_map,if_pos hk] at h;exact h
  rw [if_neg h2] at h;rw [if_neg (by omega),List.getElem?_append_right (by omega),show pre.length+d+1-pre.length=d+1 from by omega];exact h
 repeat' split
 all_goals omega
theorem ahd {f1 f2:Fact} (S:St B w0 w [f1,f2]):St B w0 w (f1::f2::eP ru):=(aG (s:=6) (aG (s:=6) (aG (s:=6) (aG (s:=6) S)))).re [4,5,0,1,2,3] (by decide)
end
theorem pO {α:Type} {enc:α->List Value} {sz:Nat} (hsz: ∀ x,(enc x).length=sz) (z:α): ∀ (k:Nat) (l:List α),k<l.length->qP (l.flatMap enc) (k*sz) (enc z)=(l.set k z).flatMap enc
 | _,[],h=>absurd h (Nat.not_lt_zero _)
 | 0,x::l,_=>by
  rw [List.flatMap_cons,Nat.zero_mul,List.set_cons_zero,List.flatMap_cons];have: ∀ (vs us xs:List Value),us.length=vs.length->qP (us++xs) 0 vs=vs++xs:=by
   have gen: ∀ (vs us ps xs:List Value),us.length=vs.length->qP (ps++(us++xs)) ps.length vs=ps++(vs++xs):=by
    intro vs
    induction vs with
    | nil=>intro us ps xs h;rw [List.length_eq_zero_iff.1 h];rfl
    | cons v vs ih=>
     intro us ps xs h;obtain ⟨u,us,rfl⟩: ∃ u us',us=u::us':=by
      cases us with
      | nil=>simp at h
      | cons u us=>exact ⟨u,us,rfl⟩
     rw [qP];have e:(ps++(u::us++xs)).set ps.length v=(ps++[v])++(us++xs):=by simp
     rw [e];have:=ih us (ps++[v]) xs (by simpa using h);rw [List.length_append] at this;rw [show ps.length+1=ps.length+[v].length from rfl,this];simp
   intro vs us xs h;exact gen vs us [] xs h
  exact this _ _ _ (by rw [hsz,hsz])
 | k+1,x::l,h=>by
  rw [List.flatMap_cons,List.set_cons_succ,List.flatMap_cons,<-pO hsz z k l (by simpa using h)];have gen: ∀ (vs us xs:List Value) (j:Nat),qP (us++xs) (us.length+j) vs=us++qP xs j vs:=by
   intro vs
   induction vs with
   | nil=>intro us xs j;rfl
   | cons v vs ih=>
    intro us xs j;rw [qP,qP,List.set_append_right _ _ (Nat.le_add_right _ _),Nat.add_sub_cancel_left,Nat.add_assoc,ih]
  rw [Nat.succ_mul,Nat.add_comm,<-hsz x,gen]
def am0 (w:World) (R:Option (List bI)×Nat×Int) (e:Ending) (w':World):Prop:=
 (R.1=none->e= .returned (.tuple #[.slice none 0 0,iV ((R.2.1:Nat):Int),iV R.2.2])/\Below w.heap.size w w')/\
 (∀ T,R.1=some T-> ∃ b bs,bs.map BX.b=T/\bs.length=4/\(∀ y∈bs,y.b.evs.length<=y.c)/\e= .returned (.tuple #[.slice (some ⟨b,0,none⟩) 4 4,iV ((R.2.1:Nat):Int),iV R.2.2])/\St w.heap.size w w' (.own 73 6 (.slice (some ⟨b,0,none⟩) 4 4) 4 (bs.flatMap BX.cells)::eP bs))
theorem YO {b:bI} {r:dM}:(dX b r).1.evs.length<=b.evs.length+1:=by
 have h:=Df (b:=b) (r:=r);unfold dX
 repeat' split
 all_goals first | exact h | simp [bG]
end Go.Proofs.YtnhimdkpkmbhlaaGreatDoor
