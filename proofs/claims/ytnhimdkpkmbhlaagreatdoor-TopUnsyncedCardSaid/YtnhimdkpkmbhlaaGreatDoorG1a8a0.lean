import Derived.Test.YtnhimdkpkmbhlaaGreatDoorG95c76
set_option maxRecDepth 100000
set_option maxHeartbeats 8000000
set_option linter.unusedSimpArgs false
set_option linter.unusedVariables false
namespace Go.Proofs.YtnhimdkpkmbhlaaGreatDoor
open ChangeShapes WideShapes RowKit
theorem Nu (l:List Ev):(aT l).length=l.length*6:=by
 induction l with
 | nil=>rfl
 | cons e l ih=>simp only [aT,List.flatMap_cons,List.length_append] at*;rw [ih];simp [Ev.cells];omega
theorem WM (l:List Ev) (k:Nat) (e:Ev) (h:l[k]? =some e):(aT l)[k*6]? =some (iV e.kind)/\(aT l)[k*6+1]? =some (iV e.producer)/\(aT l)[k*6+2]? =some (iV e.id)/\
  (aT l)[k*6+3]? =some (iV e.body)/\(aT l)[k*6+4]? =some (iV e.aG)/\(aT l)[k*6+5]? =some (iV e.hno):=by
 induction l generalizing k with
 | nil=>simp at h
 | cons x l ih=>
  cases k with
  | zero=>
   simp at h;subst h;simp [aT,Ev.cells]
  | succ k=>
   have h2:=ih k (by simpa using h);have e1:aT (x::l)=x.cells++aT l:=by simp [aT]
   have hx:x.cells.length=6:=rfl;have key: ∀ j,(x.cells++aT l)[(k+1)*6+j]? =(aT l)[k*6+j]? :=by
    intro j;rw [List.getElem?_append_right (by omega),hx]
    congr 1
    omega
   rw [e1];have k0:=key 0;simp only [Nat.add_zero] at k0;rw [k0,key 1,key 2,key 3,key 4,key 5];exact h2
theorem Rd.XF {w:World} {B n:Nat} {A:Option Addr} {l:List Ev} (h:Rd w B 6 A n (aT l)):l.length=n:=by
 have:=h.1;rw [Nu] at this;omega
theorem Rd.anP {w:World} {B n k:Nat} {A:Option Addr} {l:List Ev} (h:Rd w B 6 A n (aT l)) (hk:k<n): ∃ b off e,A=some ⟨b,off,none⟩/\b<B/\l[k]? =some e/\
  w.cell? ⟨b,off+k*6,none⟩=some (iV e.kind)/\w.cell? ⟨b,off+k*6+1,none⟩=some (iV e.producer)/\w.cell? ⟨b,off+k*6+2,none⟩=some (iV e.id)/\
  w.cell? ⟨b,off+k*6+3,none⟩=some (iV e.body)/\w.cell? ⟨b,off+k*6+4,none⟩=some (iV e.aG)/\w.cell? ⟨b,off+k*6+5,none⟩=some (iV e.hno):=by
 have hl:=h.XF;obtain ⟨b,off,e,hb,hc⟩:=h.2 (by omega);have he:l[k]? =some (l[k]'(by omega)):=List.getElem?_eq_getElem (by omega);obtain ⟨g0,g1,g2,g3,g4,g5⟩:=WM l k _ he;exact ⟨b,off,_,e,hb,he,hc _ _ g0,hc _ _ g1,hc _ _ g2,hc _ _ g3,hc _ _ g4,hc _ _ g5⟩
end Go.Proofs.YtnhimdkpkmbhlaaGreatDoor
