import Derived.Test.YtnhimdkpkmbhlaaGreatDoorG2108f
import Derived.Test.YtnhimdkpkmbhlaaGreatDoorG468ad
set_option maxRecDepth 100000
set_option maxHeartbeats 8000000
set_option linter.unusedSimpArgs false
set_option linter.unusedVariables false
namespace Go.Proofs.YtnhimdkpkmbhlaaGreatDoor
section
open ChangeShapes WideShapes RowKit
def bg (l:List Ev):List Value:=l.flatMap Ev.cells
theorem fB (l:List Ev): ∀ u∈bg l,u.oneCell'=true:=by
 intro u hu;simp only [bg,List.mem_flatMap,Ev.cells] at hu;obtain ⟨e,_,hu⟩:=hu;simp only [List.mem_cons,List.not_mem_nil,or_false] at hu
 rcases hu with rfl | rfl | rfl | rfl | rfl | rfl<;>rfl
structure kV where
 top:Int
 b0:Bool
 b1:Bool
 b2:Bool
 b3:Bool
 b4:Bool
 b5:Bool
 b6:Bool
 b7:Bool
 deriving DecidableEq
def kV.seen (x:kV):List Bool:=[x.b0,x.b1,x.b2,x.b3,x.b4,x.b5,x.b6,x.b7]
def kV.cells (x:kV):List Value:=[iV x.top,.bool x.b0,.bool x.b1,.bool x.b2,.bool x.b3,.bool x.b4,.bool x.b5,.bool x.b6,.bool x.b7]
def kV.val (x:kV):Value:= .agg #[iV x.top,.bool x.b0,.bool x.b1,.bool x.b2,.bool x.b3,.bool x.b4,.bool x.b5,.bool x.b6,.bool x.b7]
def kV.at (x:kV) (k:Nat):Bool:=x.seen.getD k false
def K8 (t:Int) (f:Nat->Bool):Bool:=(List.range 8).all λk=> !f k || decide (8<=t+k)
theorem BJ {t:Int} {f:Nat->Bool}:K8 t f=true↔ ∀ k,k<8->f k=true->8<=t+k:=by
 simp only [K8,List.all_eq_true,List.mem_range,Bool.or_eq_true,Bool.not_eq_true',decide_eq_true_eq]
 constructor
 ·intro h k hk hf
  rcases h k hk with h | h
  ·rw [hf] at h;cases h
  exact h
 intro h k hk
 cases hf:f k
 ·exact .inl rfl
 exact .inr (h k hk hf)
def fE (x:kV):Int:=
 if (decide (0<=x.top)&&decide (x.top<=1073741825)&&K8 x.top x.at&&(!decide (0<x.top) || x.b7))=true then 0 else 6
theorem Ug (b0 b1 b2 b3 b4 b5 b6 b7:Bool) (w:World):(Instr.index 41 (.agg #[.bool b0,.bool b1,.bool b2,.bool b3,.bool b4,.bool b5,.bool b6,.bool b7]) (iV 0)).run Tryz.prog w= .ok (.bool b0) w:=by kernel_rfl
theorem Uh (b0 b1 b2 b3 b4 b5 b6 b7:Bool) (w:World):(Instr.index 41 (.agg #[.bool b0,.bool b1,.bool b2,.bool b3,.bool b4,.bool b5,.bool b6,.bool b7]) (iV 1)).run Tryz.prog w= .ok (.bool b1) w:=by kernel_rfl
theorem Ui (b0 b1 b2 b3 b4 b5 b6 b7:Bool) (w:World):(Instr.index 41 (.agg #[.bool b0,.bool b1,.bool b2,.bool b3,.bool b4,.bool b5,.bool b6,.bool b7]) (iV 2)).run Tryz.prog w= .ok (.bool b2) w:=by kernel_rfl
theorem Uj (b0 b1 b2 b3 b4 b5 b6 b7:Bool) (w:World):(Instr.index 41 (.agg #[.bool b0,.bool b1,.bool b2,.bool b3,.bool b4,.bool b5,.bool b6,.bool b7]) (iV 3)).run Tryz.prog w= .ok (.bool b3) w:=by kernel_rfl
theorem Ul (b0 b1 b2 b3 b4 b5 b6 b7:Bool) (w:World):(Instr.index 41 (.agg #[.bool b0,.bool b1,.bool b2,.bool b3,.bool b4,.bool b5,.bool b6,.bool b7]) (iV 4)).run Tryz.prog w= .ok (.bool b4) w:=by kernel_rfl
theorem Um (b0 b1 b2 b3 b4 b5 b6 b7:Bool) (w:World):(Instr.index 41 (.agg #[.bool b0,.bool b1,.bool b2,.bool b3,.bool b4,.bool b5,.bool b6,.bool b7]) (iV 5)).run Tryz.prog w= .ok (.bool b5) w:=by kernel_rfl
theorem Un (b0 b1 b2 b3 b4 b5 b6 b7:Bool) (w:World):(Instr.index 41 (.agg #[.bool b0,.bool b1,.bool b2,.bool b3,.bool b4,.bool b5,.bool b6,.bool b7]) (iV 6)).run Tryz.prog w= .ok (.bool b6) w:=by kernel_rfl
theorem Uo (b0 b1 b2 b3 b4 b5 b6 b7:Bool) (w:World):(Instr.index 41 (.agg #[.bool b0,.bool b1,.bool b2,.bool b3,.bool b4,.bool b5,.bool b6,.bool b7]) (iV 7)).run Tryz.prog w= .ok (.bool b7) w:=by kernel_rfl
theorem K9 (x:kV) (k:Nat) (hk:k<8) (w:World):
  (Instr.index 41 (.agg #[.bool x.b0,.bool x.b1,.bool x.b2,.bool x.b3,.bool x.b4,.bool x.b5,.bool x.b6,.bool x.b7]) (iV k)).run Tryz.prog w= .ok (.bool (x.at k)) w:=by
 have h:k=0\/k=1\/k=2\/k=3\/k=4\/k=5\/k=6\/k=7:=by omega
 rcases h with rfl | rfl | rfl | rfl | rfl | rfl | rfl | rfl
 ·exact Ug _ _ _ _ _ _ _ _ w
 ·exact Uh _ _ _ _ _ _ _ _ w
 ·exact Ui _ _ _ _ _ _ _ _ w
 ·exact Uj _ _ _ _ _ _ _ _ w
 ·exact Ul _ _ _ _ _ _ _ _ w
 ·exact Um _ _ _ _ _ _ _ _ w
 ·exact Un _ _ _ _ _ _ _ _ w
 exact Uo _ _ _ _ _ _ _ _ w
theorem xQ (x:kV) (w:World) (h0:0<=x.top) (h1:x.top<=1073741825):
  Calls Tryz.prog 63 #[x.val] w λe w'=>e= .returned (iV (x.top-8))/\Below w.heap.size w w':=by
 obtain ⟨t,b0,b1,b2,b3,b4,b5,b6,b7⟩:=x;unfold kV.val;simp only at h0 h1⊢
 go_enter Tryz.func63,Tryz.ntmps63
 go_wp2
 go_ret
 exact ⟨rfl,by go_grown⟩
def Ii (w:World) (k:Int) (e:Ending) (w':World):Prop:=e= .returned (iV k)/\Below w.heap.size w w'
theorem Nr (x:kV) (w:World) (h:x.top<0\/1073741825<x.top):Calls Tryz.prog 39 #[x.val] w (Ii w 6):=by
 obtain ⟨t,b0,b1,b2,b3,b4,b5,b6,b7⟩:=x;unfold kV.val;simp only at h⊢;by_cases h0:t<0
 ·clear h
  go_enter Tryz.func39,Tryz.ntmps39
  go_wp2_with fail
  go_ret
  exact ⟨rfl,by go_grown⟩
 have h1:1073741825<t:=by omega
 clear h
 go_enter Tryz.func39,Tryz.ntmps39
 go_wp2_with fail
 go_ret
 exact ⟨rfl,by go_grown⟩
theorem Ns {x:kV} {k:Nat} (hk:k<8) (h:x.at k=true) (h2:x.top+k<8):fE x=6:=by
 refine if_neg (λhh=>?_);simp only [Bool.and_eq_true] at hh;have:=BJ.1 hh.1.2 k hk h;omega
theorem Xj (x:kV) (w:World) (h0:0<=x.top) (h1:x.top<=1073741825):Calls Tryz.prog 39 #[x.val] w (Ii w (fE x)):=by
 have HF:Hid (∀ k,k<8->x.at k=true->x.top+k<8->fE x=6):=Lib.hid (λk=>Ns);have HI:=Lib.hid (K9 x);have HL:=Lib.hid (xQ x);have HE:Hid (fE x=if (K8 x.top x.at&&(!decide (0<x.top) || x.b7))=true then 0 else 6):=by
  unfold Hid fE;simp [h0,h1]
 generalize fE x=z at HF HE;have hat:=Lib.hid (rfl:x.at=x.at);generalize x.at=f at HF HI HE hat;clear hat;obtain ⟨t,b0,b1,b2,b3,b4,b5,b6,b7⟩:=x;unfold kV.val at*;simp only at h0 h1
 go_enter Tryz.func39,Tryz.ntmps39
 go_wp2_with fail
 go_loopw [15] (λi wr=> ∃ k:Nat,k<=8/\i=iV k/\(∀ j,j<k->f j=true->8<=t+j)/\Below (w.heap.size+1) (w.alloc (.cells #[iV t,.bool b0,.bool b1,.bool b2,.bool b3,.bool b4,.bool b5,.bool b6,.bool b7] 43)) wr) (λi _=>8-(intOf i).toNat)
 case atStart=>exact ⟨0,by omega,rfl,by simp,by go_grown⟩
 case round=>
  obtain ⟨k,hk,rfl,hall,hb⟩:=hrel;have HA:=Lib.hid hall;have HB:=Lib.hid hb;have c0:=hb.cell (p:=⟨w.heap.size,0,none⟩) (by simp);have c1:=hb.cell (p:=⟨w.heap.size,1,none⟩) (by simp);have c2:=hb.cell (p:=⟨w.heap.size,2,none⟩) (by simp);have c3:=hb.cell (p:=⟨w.heap.size,3,none⟩) (by simp);have c4:=hb.cell (p:=⟨w.heap.size,4,none⟩) (by simp);have c5:=hb.cell (p:=⟨w.heap.size,5,none⟩) (by simp);have c6:=hb.cell (p:=⟨w.heap.size,6,none⟩) (by simp);have c7:=hb.cell (p:=⟨w.heap.size,7,none⟩) (by simp);have c8:=hb.cell (p:=⟨w.heap.size,8,none⟩) (by simp);simp only [World.cell?_alloc_mark] at c0 c1 c2 c3 c4 c5 c6 c7 c8;have hsz:w.heap.size+1<=wr.heap.size:=by have:=hb.size;simpa using this
  clear hall hb;by_cases hlt:k<8
  ·have hi:=HI.out k hlt
   cases Hf:f k
   ·rw [Hf] at hi
    go_wp2_with fail
    go_roundw
    case rel=>exact ⟨k+1,by omega,by go_num,(λj hj hfj=>by
     rcases Nat.lt_or_ge j k with h | h
     ·exact HA.out j h hfj
     rw [show j=k by omega,Hf] at hfj;cases hfj),HB.out⟩
    case measure=>simp [intOf];omega
   rw [Hf] at hi;by_cases hneg:t-8+k<0
   ·have hz:=HF.out k hlt Hf (by omega);subst hz;clear Hf
    go_wp2_with fail
    refine (HL.out _ h0 h1).mono ?_;rintro e w1 ⟨rfl,hb1⟩;have HB1:=Lib.hid hb1;clear hb1
    go_wp2_with fail
    go_ret
    exact ⟨rfl,((Below.refl _ w).alloc (Nat.le_refl _) _).trans ((HB.out.mono (by omega)).trans (HB1.out.mono (by omega)))⟩
   have hf2:=Lib.hid Hf;clear Hf
   go_wp2_with fail
   refine (HL.out _ h0 h1).mono ?_;rintro e w1 ⟨rfl,hb1⟩;have HB1:=Lib.hid hb1;clear hb1
   go_wp2_with fail
   go_roundw
   case rel=>exact ⟨k+1,by omega,by go_num,(λj hj hfj=>by
    rcases Nat.lt_or_ge j k with h | h
    ·exact HA.out j h hfj
    rw [show j=k by omega];omega),HB.out.trans (HB1.out.mono (by omega))⟩
   case measure=>simp [intOf];omega
  obtain rfl:k=8:=by omega
  by_cases ht:0<t
  ·cases b7
   ·have hz:z=6:=by rw [HE.out];simp [ht]
    subst hz
    go_wp2_with fail
    go_ret
    exact ⟨rfl,((Below.refl _ w).alloc (Nat.le_refl _) _).trans (HB.out.mono (by omega))⟩
   have hz:z=0:=by rw [HE.out,BJ.2 HA.out];simp
   subst hz
   go_wp2_with fail
   go_ret
   exact ⟨rfl,((Below.refl _ w).alloc (Nat.le_refl _) _).trans (HB.out.mono (by omega))⟩
  have hz:z=0:=by rw [HE.out,BJ.2 HA.out];simp [ht]
  subst hz
  go_wp2_with fail
  go_ret
  exact ⟨rfl,((Below.refl _ w).alloc (Nat.le_refl _) _).trans (HB.out.mono (by omega))⟩
theorem Dt (x:kV) (w:World):Calls Tryz.prog 39 #[x.val] w (Ii w (fE x)):=by
 by_cases h:0<=x.top/\x.top<=1073741825
 ·exact Xj x w h.1 h.2
 rw [show fE x=6 from if_neg (λhh=>by simp only [Bool.and_eq_true,decide_eq_true_eq] at hh;exact h ⟨hh.1.1.1,hh.1.1.2⟩)];exact Nr x w (by omega)
def intCells (l:List Int):List Value:=l.map (Value.int .i64)
theorem Rd.afy {w:World} {B n:Nat} {A:Option Addr} {l:List Int} (h:Rd w B 1 A n (intCells l)):l.length=n:=by
 have:=h.1;simp [intCells] at this;omega
theorem Rd.ak8 {w:World} {B n k:Nat} {A:Option Addr} {l:List Int} (h:Rd w B 1 A n (intCells l)) (hk:k<n): ∃ b off x,A=some ⟨b,off,none⟩/\b<B/\l[k]? =some x/\w.cell? ⟨b,off+k,none⟩=some (.int .i64 x):=by
 obtain ⟨b,off,u,e,hb,hx,hc⟩:=h.at_ hk;simp only [intCells,List.getElem?_map,Option.map_eq_some_iff] at hx;obtain ⟨x,hx,rfl⟩:=hx;exact ⟨b,off,x,e,hb,hx,hc⟩
def oz (t:Int) (f:Nat->Bool):Nat->List Int
 | 0=>[]
 | k+1=>if f k=true then oz t f k++[t-8+k] else oz t f k
def ahT (t:Int) (bs:List Bool):kV:=⟨t,bs.getD 0 false,bs.getD 1 false,bs.getD 2 false,bs.getD 3 false,bs.getD 4 false,bs.getD 5 false,bs.getD 6 false,bs.getD 7 false⟩
def rP (bs:List Bool) (k:Int):List Bool:=if 0<=k then bs.set k.toNat true else bs
def l9 (t:Int) (l:List Int):List Bool:=l.foldl (λbs x=>rP bs (x-t+8)) [false,false,false,false,false,false,false,false]
theorem Fj (t:Int) (l:List Int) (x:Int):l9 t (l++[x])=rP (l9 t l) (x-t+8):=by simp [l9]
theorem Uq (bs:List Bool) (k:Int):(rP bs k).length=bs.length:=by unfold rP;split<;>simp
theorem Ja (t:Int) (l:List Int):(l9 t l).length=8:=by
 unfold l9;generalize hb:[false,false,false,false,false,false,false,false]=b;have h8:b.length=8:=by rw [<-hb];rfl
 clear hb
 induction l generalizing b with
 | nil=>simpa using h8
 | cons x l ih=>exact ih _ (by rw [Uq];exact h8)
def vT (t:Int) (bs:List Bool):Array Value:=(.int .i64 t::bs.map Value.bool).toArray
theorem eight {bs:List Bool} (h:bs.length=8): ∃ a0 a1 a2 a3 a4 a5 a6 a7,bs=[a0,a1,a2,a3,a4,a5,a6,a7]:=by
 match bs,h with
 | [a0,a1,a2,a3,a4,a5,a6,a7],_=>exact ⟨a0,a1,a2,a3,a4,a5,a6,a7,rfl⟩
structure WB (w:World) (t:Int) (bs:List Bool) (wr:World):Prop where
 below:Below w.heap.size w wr
 res:wr.heap[w.heap.size]? =some (.cells #[.int .i64 0,.bool false,.bool false,.bool false,.bool false,.bool false,.bool false,.bool false,.bool false] 43 (0,0))
 row:wr.heap[w.heap.size+1]? =some (.cells (vT t bs) 43 (0,0))
theorem WB.drewN {w wr:World} {t:Int} {bs:List Bool} (h:WB w t bs wr) (q:Nat):WB w t bs (wr.drewN q):=
 ⟨⟨h.below.os,h.below.tape,h.below.output,h.below.size,h.below.block⟩,h.res,h.row⟩
theorem WB.uM {w wr:World} {t:Int} {bs:List Bool} (h:WB w t bs wr) (j:Nat):WB w t (bs.set j true) (wr.setCell ⟨w.heap.size+1,1+j,none⟩ (.bool true)):=by
 refine ⟨h.below.setCell (by simp) _,?_,?_⟩
 ·rw [Below.heap_setCell _ _ _ _ (by simp)];exact h.res
 have hr:=h.row;simp only [World.setCell,Array.getElem?_modify,hr];simp [vT,Nat.add_comm 1 j,List.map_set]
theorem WB.cell {w wr:World} {t:Int} {bs:List Bool} (h:WB w t bs wr) {j:Nat} (hj:j<bs.length):wr.cell? ⟨w.heap.size+1,1+j,none⟩=some (.bool (bs.getD j false)):=by
 rw [cell_of_row wr _ (1+j) _ _ (0,0) h.row,Nat.add_comm];simp [vT,hj]
theorem WB.free {w wr:World} {t:Int} {bs:List Bool} (h:WB w t bs wr) (j:Nat):wr.frozen? ⟨w.heap.size+1,j,none⟩=false:=by
 have:=h.row;simp [World.frozen?,this]
class yt (α:Type) where
 size:Nat
 ints:α->List Int
 of:List Int->α
 pos:0<size
 len: ∀ a,(ints a).length=size
 inv: ∀ xs:List Int,xs.length=size->ints (of xs)=xs
section
variable {α:Type} [yt α]
open yt
def qE (a:α):List Value:=(ints a).map (Value.int .i64)
def jP (l:List α):List Value:=l.flatMap qE
theorem vE (a:α):(qE a).length=size α:=by simp [qE,len]
theorem rQ (l:List α):(jP l).length=l.length*size α:=by
 induction l with
 | nil=>simp [jP]
 | cons e l ih=>simp only [jP,List.flatMap_cons,List.length_append,List.length_cons] at*;rw [ih,vE,Nat.succ_mul];omega
theorem Du (l:List α): ∀ u∈jP l,u.oneCell'=true:=by
 intro u hu;simp only [jP,qE,List.mem_flatMap,List.mem_map] at hu;obtain ⟨e,_,x,_,rfl⟩:=hu;rfl
theorem Dv {l:List α} {k j:Nat} {a:α} {v:Int} (h:l[k]? =some a) (hj:(ints a)[j]? =some v):(jP l)[k*size α+j]? =some (.int .i64 v):=by
 induction l generalizing k with
 | nil=>simp at h
 | cons x l ih=>
  have e1:jP (x::l)=qE x++jP l:=by simp [jP]
  have hx:=vE x;have hjl:j<size α:=by
   have:=(List.getElem?_eq_some_iff.1 hj).1;rw [len] at this;exact this
  rw [e1]
  cases k with
  | zero=>
   simp at h;subst h;rw [Nat.zero_mul,Nat.zero_add,List.getElem?_append_left (by omega)];simp [qE,hj]
  | succ k=>
   rw [List.getElem?_append_right (by rw [Nat.succ_mul];omega),hx,show (k+1)*size α+j-size α=k*size α+j by rw [Nat.succ_mul];omega];exact ih (by simpa using h)
variable {w:World} {B n:Nat} {A:Option Addr} {l:List α}
theorem Rd.MR (h:Rd w B (size α) A n (jP l)):l.length=n:=by
 have:=h.1;rw [rQ] at this;exact Nat.eq_of_mul_eq_mul_right (pos (α:=α)) this
theorem Rd.ak9 {k:Nat} (h:Rd w B (size α) A n (jP l)) (hk:k<n): ∃ b off a,A=some ⟨b,off,none⟩/\b<B/\l[k]? =some a/\
  ∀ j v,(ints a)[j]? =some v->w.cell? ⟨b,off+(k*size α+j),none⟩=some (.int .i64 v):=by
 have hl:=h.MR;obtain ⟨b,off,e,hb,hc⟩:=h.2 (by omega);have he:l[k]? =some (l[k]'(by omega)):=List.getElem?_eq_getElem (by omega);exact ⟨b,off,_,e,hb,he,λj v hj=>hc _ _ (Dv he hj)⟩
theorem Xk {cs:List Value} {m:Nat} (h:eu Sw cs (List.replicate m (.int .i64))): ∃ xs:List Int,xs.length=m/\cs=xs.map (Value.int .i64):=by
 induction m generalizing cs with
 | zero=>exact ⟨[],rfl,eu.vS h⟩
 | succ m ih=>
  obtain ⟨a,l1,rfl,⟨x,rfl,_⟩,h3⟩:=eu.xP h;obtain ⟨xs,h4,rfl⟩:=ih h3;exact ⟨x::xs,by simp [h4],rfl⟩
theorem Xl {W:World} {v:Value} {b:Nat} (h:Fits W v (.sl b (List.replicate (size α) (.int .i64)))):
  ∃ A n c,∃ l:List α,v= .slice A n c/\Rd W W.heap.size (size α) A n (jP l)/\n<=c/\c<=maxLen/\c*b<=reachBytes/\(A=none->c=0):=by
 have hp:=pos (α:=α)
 rcases h with rfl | ⟨ad,n,c,rfl,hn,hc,hr,hcell⟩
 ·exact ⟨none,0,0,[],rfl,⟨by simp [jP],λh=>absurd h (by omega)⟩,Nat.le_refl _,Nat.zero_le _,by simp,λ_=>rfl⟩
 have hex: ∀ i,i<n-> ∃ x:α,ad.block<W.heap.size/\ ∀ j u,(qE x)[j]? =some u->W.cell? (ad.add (i*size α+j))=some u:=by
  intro i hi;obtain ⟨cs,h2,hb,hcs⟩:=hcell i hi;obtain ⟨xs,hx,rfl⟩:=Xk h2;rw [List.length_replicate] at hb hcs;refine ⟨of xs,hb hp,λj u hj=>hcs j u ?_⟩;rw [qE,inv xs hx] at hj;exact hj
 have hd: ∃ x:α,True:=⟨of [],trivial⟩;obtain ⟨f,hf⟩: ∃ f:Nat->α,∀ i,i<n->ad.block<W.heap.size/\ ∀ j u,(qE (f i))[j]? =some u->W.cell? (ad.add (i*size α+j))=some u:=by
  refine ⟨λi=>if hi:i<n then Classical.choose (hex i hi) else of [],λi hi=>?_⟩;simp only [hi,dif_pos];exact Classical.choose_spec (hex i hi)
 refine ⟨some ad,n,c,(List.range n).map f,rfl,⟨by rw [rQ];simp,λh0=>?_⟩,hn,hc,hr,λh=>by cases h⟩;obtain ⟨b,off,spot⟩:=ad;have hspot:spot=none:=by
  have h1:(qE (f 0))[0]? =some ((qE (f 0))[0]'(by rw [vE];exact hp)):=List.getElem?_eq_getElem _;simpa [Addr.add] using World.cell?_spot ((hf 0 h0).2 0 _ h1)
 subst hspot;refine ⟨b,off,rfl,(hf 0 h0).1,λj u hu=>?_⟩;have hj:j<n*size α:=by
  have:=(List.getElem?_eq_some_iff.1 hu).1;rw [rQ] at this;simpa using this
 have hk:j / size α<n:=Nat.div_lt_of_lt_mul (by rw [Nat.mul_comm];exact hj);have hm:j % size α<size α:=Nat.mod_lt _ hp;have hg:((List.range n).map f)[j / size α]? =some (f (j / size α)):=by simp [hk]
 have e:j / size α*size α+j % size α=j:=by rw [Nat.mul_comm];exact Nat.div_add_mod j (size α)
 have h7:=(hf (j / size α) hk).2 (j % size α) u;rw [Go.WideShapes.add_plain,e] at h7;refine h7 ?_;have hi:(ints (f (j / size α)))[j % size α]? =some ((ints (f (j / size α)))[j % size α]'(by rw [len];exact hm)):=List.getElem?_eq_getElem _;have h8:=Dv hg hi;rw [e,hu] at h8;rw [qE,List.getElem?_map,hi];exact h8.symm
end
theorem xR: ∀ {xs ys:List Int},xs.length=ys.length->dW (xs.map (Value.int .i64)) (ys.map (Value.int .i64))=decide (xs=ys)
 | [],[],_=>by simp [dW]
 | x::xs,y::ys,h=>by
  have ih:=xR (xs:=xs) (ys:=ys) (by simpa using h);simp only [List.map_cons,dW,yh,ih,List.cons.injEq];rw [Bool.eq_iff_iff];simp
 | [],_::_,h=>by simp at h
 | _::_,[],h=>by simp at h
theorem wP: ∀ (xs:List Int),eu Kd (xs.map (Value.int .i64)) (List.replicate xs.length (.at_ (.int .i64)))
 | []=>trivial
 | _::xs=>⟨⟨_,rfl⟩,wP xs⟩
end
section
open ChangeShapes WideShapes RowKit
structure Pl where
 node:Int
 epoch:Int
 deriving DecidableEq
structure Dir where
 p0:Pl
 p1:Pl
 p2:Pl
 p3:Pl
 deriving DecidableEq
def Dir.cells (d:Dir):List Value:=[.int .i64 d.p0.node,.int .i64 d.p0.epoch,.int .i64 d.p1.node,.int .i64 d.p1.epoch,.int .i64 d.p2.node,.int .i64 d.p2.epoch,.int .i64 d.p3.node,.int .i64 d.p3.epoch]
def Dir.val (d:Dir):Value:= .agg #[.int .i64 d.p0.node,.int .i64 d.p0.epoch,.int .i64 d.p1.node,.int .i64 d.p1.epoch,.int .i64 d.p2.node,.int .i64 d.p2.epoch,.int .i64 d.p3.node,.int .i64 d.p3.epoch]
def Dir.at (d:Dir):Nat->Pl
 | 0=>d.p0
 | 1=>d.p1
 | 2=>d.p2
 | _=>d.p3
def Dir.set (d:Dir) (k:Nat) (p:Pl):Dir:=
 match k with
 | 0=>{ d with p0:=p }
 | 1=>{ d with p1:=p }
 | 2=>{ d with p2:=p }
 | _=>{ d with p3:=p }
def mg:Pl:=⟨0,0⟩
def nowhere:Pl:=⟨-1,0⟩
def ko:Dir:=⟨mg,mg,mg,mg⟩
def yD (p:Pl):Prop:=(p.node= -1/\p.epoch=0)\/(0<=p.node/\p.node<=4/\1<=p.epoch/\p.epoch<=1048576)
open Classical in
noncomputable def gD (d:Dir):Int:=if ∀ k,k<4->yD (d.at k) then 0 else 6
theorem Nt {d:Dir} {k:Nat} (hk:k<4) (h: ¬ yD (d.at k)):gD d=6:=if_neg (λh'=>h (h' k hk))
theorem Qx {d:Dir} (h: ∀ k,k<4->yD (d.at k)):gD d=0:=if_pos h
theorem KM {d:Dir} (h:gD d=0): ∀ k,k<4->yD (d.at k):=by
 unfold gD at h
 split at h
 ·assumption
 cases h
theorem Jb (a b:Pl):dW [.int .i64 a.node,.int .i64 a.epoch] [.int .i64 b.node,.int .i64 b.epoch]=decide (a=b):=by
 have:=xR (xs:=[a.node,a.epoch]) (ys:=[b.node,b.epoch]) rfl;simp only [List.map_cons,List.map_nil] at this;rw [this,Bool.eq_iff_iff];obtain ⟨a1,a2⟩:=a;obtain ⟨b1,b2⟩:=b;simp
theorem VH:flat Tryz.prog 30 27=some (List.replicate 2 (.at_ (.int .i64))):=by kernel_rfl
theorem VI:Es Tryz.prog 30 27=true:=by kernel_rfl
theorem aaS (xs:List Value):mkV Tryz.prog 27 xs= .agg xs.toArray:=by
 unfold mkV;rw [Tryz.underlying27]
theorem Jc (a b:Pl) (w:World):(binOp .eql 27 (.agg #[.int .i64 a.node,.int .i64 a.epoch]) (.agg #[.int .i64 b.node,.int .i64 b.epoch])).run Tryz.prog w= .ok (.bool (decide (a=b))) w:=by
 rw [<-Jb];exact vC (P:=Tryz.prog) w VH VI aaS (wP [a.node,a.epoch]) (wP [b.node,b.epoch])
theorem Ur (a b:Pl) (w:World):(binOp .neq 27 (.agg #[.int .i64 a.node,.int .i64 a.epoch]) (.agg #[.int .i64 b.node,.int .i64 b.epoch])).run Tryz.prog w= .ok (.bool (!decide (a=b))) w:=by
 rw [<-Jb];exact vD (P:=Tryz.prog) w VH VI aaS (wP [a.node,a.epoch]) (wP [b.node,b.epoch])
theorem Xm (n0 e0 n1 e1 n2 e2 n3 e3:Int) (w:World):(Instr.index 28 (.agg #[.int .i64 n0,.int .i64 e0,.int .i64 n1,.int .i64 e1,.int .i64 n2,.int .i64 e2,.int .i64 n3,.int .i64 e3]) (.int .i64 0)).run Tryz.prog w= .ok (.agg #[.int .i64 n0,.int .i64 e0]) w:=by kernel_rfl
theorem Xn (n0 e0 n1 e1 n2 e2 n3 e3:Int) (w:World):(Instr.index 28 (.agg #[.int .i64 n0,.int .i64 e0,.int .i64 n1,.int .i64 e1,.int .i64 n2,.int .i64 e2,.int .i64 n3,.int .i64 e3]) (.int .i64 1)).run Tryz.prog w= .ok (.agg #[.int .i64 n1,.int .i64 e1]) w:=by kernel_rfl
theorem Xo (n0 e0 n1 e1 n2 e2 n3 e3:Int) (w:World):(Instr.index 28 (.agg #[.int .i64 n0,.int .i64 e0,.int .i64 n1,.int .i64 e1,.int .i64 n2,.int .i64 e2,.int .i64 n3,.int .i64 e3]) (.int .i64 2)).run Tryz.prog w= .ok (.agg #[.int .i64 n2,.int .i64 e2]) w:=by kernel_rfl
theorem Xp (n0 e0 n1 e1 n2 e2 n3 e3:Int) (w:World):(Instr.index 28 (.agg #[.int .i64 n0,.int .i64 e0,.int .i64 n1,.int .i64 e1,.int .i64 n2,.int .i64 e2,.int .i64 n3,.int .i64 e3]) (.int .i64 3)).run Tryz.prog w= .ok (.agg #[.int .i64 n3,.int .i64 e3]) w:=by kernel_rfl
theorem ab6 (d:Dir) (k:Nat) (hk:k<4) (w:World):(Instr.index 28 (.agg #[.int .i64 d.p0.node,.int .i64 d.p0.epoch,.int .i64 d.p1.node,.int .i64 d.p1.epoch,.int .i64 d.p2.node,.int .i64 d.p2.epoch,.int .i64 d.p3.node,.int .i64 d.p3.epoch]) (.int .i64 k)).run Tryz.prog w= .ok (.agg #[.int .i64 (d.at k).node,.int .i64 (d.at k).epoch]) w:=by
 have h:k=0\/k=1\/k=2\/k=3:=by omega
 rcases h with rfl | rfl | rfl | rfl
 ·exact Xm _ _ _ _ _ _ _ _ w
 ·exact Xn _ _ _ _ _ _ _ _ w
 ·exact Xo _ _ _ _ _ _ _ _ w
 exact Xp _ _ _ _ _ _ _ _ w
structure Nw (w:World):Prop where
 c0:w.cell? ⟨0,0,none⟩=some (.int .i64 (-1))
 c1:w.cell? ⟨0,1,none⟩=some (.int .i64 0)
 lt:0<w.heap.size
theorem Nw.on {w w':World} (h:Nw w) (hb:Below w.heap.size w w'):Nw w':=
 ⟨(hb.cell (p:=⟨0,0,none⟩) h.lt).trans h.c0,(hb.cell (p:=⟨0,1,none⟩) h.lt).trans h.c1,Nat.lt_of_lt_of_le h.lt hb.size⟩
def aq9 (w:World) (k:Int) (e:Ending) (w':World):Prop:=e= .returned (.int .i64 k)/\Below w.heap.size w w'
def aaT (w:World) (r:Pl×Int) (e:Ending) (w':World):Prop:=e= .returned (.tuple #[.agg #[.int .i64 r.1.node,.int .i64 r.1.epoch],.int .i64 r.2])/\Below w.heap.size w w'
def VJ (w:World) (r:Dir×Int) (e:Ending) (w':World):Prop:=e= .returned (.tuple #[r.1.val,.int .i64 r.2])/\Below w.heap.size w w'
theorem Nu (d:Dir) (w:World) (hn:Nw w):Calls Tryz.prog 121 #[d.val] w (aq9 w (gD d)):=by
 have HN:=Lib.hid hn;have HI:=Lib.hid (ab6 d);have HF:=Lib.hid (λk hk h=>Nt (d:=d) (k:=k) hk h);have H0:=Lib.hid (Qx (d:=d));clear hn;generalize gD d=z at HF H0⊢;have hat:=Lib.hid (rfl:d.at=d.at);generalize d.at=f at HI HF H0 hat;clear hat;obtain ⟨⟨n0,e0⟩,⟨n1,e1⟩,⟨n2,e2⟩,⟨n3,e3⟩⟩:=d;unfold Dir.val;simp only at HI⊢
 go_enter Tryz.func121,Tryz.ntmps121
 go_wp2_with fail
 go_loopw [7] (λi wr=> ∃ k:Nat,k<=4/\i= .int .i64 k/\(∀ j,j<k->yD (f j))/\Below w.heap.size w wr) (λi _=>4-(intOf i).toNat)
 case atStart=>exact ⟨0,by omega,rfl,λj hj=>absurd hj (by omega),by go_grown⟩
 case round=>
  obtain ⟨k,hk,rfl,hall,hb⟩:=hrel;have hsz:w.heap.size<=wr.heap.size:=hb.size;have HB:=Lib.hid hb;have HA:=Lib.hid hall;by_cases hlt:k<4
  ·have hi:=HI.out k hlt;have HFk:=Lib.hid (HF.out k hlt);have HQ:Hid (yD (f k)-> ∀ j,j<k+1->yD (f j)):=Lib.hid (λh j hj=>by
    by_cases e:j=k
    ·rw [e];exact h
    exact HA.out j (by omega))
   obtain ⟨g0,g1,g2⟩:=HN.out.on hb;generalize f k=p at hi HFk HQ;have hq:=Jc p nowhere;unfold nowhere at hq;simp only at hq;clear hall;by_cases hp:p=⟨-1,0⟩
   ·have HG:=Lib.hid (HQ.out (by rw [hp];exact .inl ⟨rfl,rfl⟩));have hd:decide (p=⟨-1,0⟩)=true:=by simpa using hp
    rw [hd] at hq;clear hp hd;obtain ⟨pn,pe⟩:=p;simp only at hi hq
    go_wp2_with fail
    go_roundw
    case rel=>exact ⟨k+1,by omega,by go_num,HG.out,by go_grown⟩
    case measure=>simp [intOf];omega
   have hd:decide (p=⟨-1,0⟩)=false:=by simpa using hp
   rw [hd] at hq;clear hd;obtain ⟨pn,pe⟩:=p;simp only [Pl.mk.injEq] at hi hq hp;have HP:=Lib.hid hp;clear hp;by_cases b1:pn<0
   ·have hp:=HP.out;have e:=HFk.out (by unfold yD;simp only;omega);subst e
    go_wp2_with fail
    go_ret
    exact ⟨rfl,by go_grown⟩
   by_cases b2:5<=pn
   ·have e:=HFk.out (by unfold yD;simp only;omega);subst e
    go_wp2_with fail
    go_ret
    exact ⟨rfl,by go_grown⟩
   by_cases b3:pe<1
   ·have e:=HFk.out (by unfold yD;simp only;omega);subst e
    go_wp2_with fail
    go_ret
    exact ⟨rfl,by go_grown⟩
   by_cases b4:1048576<pe
   ·have e:=HFk.out (by unfold yD;simp only;omega);subst e
    go_wp2_with fail
    go_ret
    exact ⟨rfl,by go_grown⟩
   have HG:=Lib.hid (HQ.out (by unfold yD;simp only;omega))
   go_wp2_with fail
   go_roundw
   case rel=>exact ⟨k+1,by omega,by go_num,HG.out,by go_grown⟩
   case measure=>simp [intOf];omega
  obtain rfl:k=4:=by omega
  have e:=H0.out HA.out;subst e;clear hall
  go_wp2_with fail
  go_ret
  exact ⟨rfl,by go_grown⟩
noncomputable def p9 (d:Dir) (q:Int):Pl×Int:=if gD d≠0 then (mg,gD d) else if q<0\/3<q then (mg,2) else (d.at q.toNat,0)
noncomputable def bO (d:Dir) (q:Int):Pl×Int:=if (p9 d q).2=0/\(p9 d q).1=nowhere then (mg,7) else p9 d q
theorem Jd {d:Dir} {q:Int} (h:gD d≠0):p9 d q=(mg,gD d):=if_pos h
theorem Je {d:Dir} {q:Int} (h:gD d=0) (hq:q<0\/3<q):p9 d q=(mg,2):=by
 unfold p9;rw [if_neg (by omega),if_pos hq]
theorem VK {d:Dir} {q:Int} (h:gD d=0) (hq: ¬ (q<0\/3<q)):p9 d q=(d.at q.toNat,0):=by
 unfold p9;rw [if_neg (by omega),if_neg hq]
theorem Nv {d:Dir} {q:Int} (h:gD d≠0):bO d q=(mg,gD d):=by
 unfold bO;rw [Jd h,if_neg (λhh=>h hh.1)]
theorem Ny {d:Dir} {q:Int} (h:gD d=0) (hq:q<0\/3<q):bO d q=(mg,2):=by
 unfold bO;rw [Je h hq,if_neg (λhh=>by cases hh.1)]
theorem Qy {d:Dir} {q:Int} (h:gD d=0) (hq: ¬ (q<0\/3<q)) (hn:d.at q.toNat=nowhere):bO d q=(mg,7):=by
 unfold bO;rw [VK h hq,if_pos ⟨rfl,hn⟩]
theorem Qz {d:Dir} {q:Int} (h:gD d=0) (hq: ¬ (q<0\/3<q)) (hn:d.at q.toNat≠nowhere):bO d q=(d.at q.toNat,0):=by
 unfold bO;rw [VK h hq,if_neg (λhh=>hn hh.2)]
theorem La (d:Dir) (q:Int) (w:World) (hn:Nw w):Calls Tryz.prog 98 #[d.val,.int .i64 q] w (aaT w (p9 d q)):=by
 have HN:=Lib.hid hn;have HC:=Lib.hid (λw h=>Nu d w h);have HR0:Hid (∀ r,r=p9 d q->r=if gD d≠0 then (mg,gD d) else if q<0\/3<q then (mg,2) else (d.at q.toNat,0)):=Lib.hid (λr h=>h);generalize hr:p9 d q=r;have HR:=Lib.hid (HR0.out r hr.symm);clear hn hr HR0;generalize gD d=z at HC HR;obtain ⟨⟨n0,e0⟩,⟨n1,e1⟩,⟨n2,e2⟩,⟨n3,e3⟩⟩:=d;unfold Dir.val at*;simp only at HC⊢
 go_enter Tryz.func98,Tryz.ntmps98
 go_wp2_with fail
 refine (HC.out _ (HN.out.on (by go_grown))).mono ?_;rintro e w1 ⟨rfl,hb1⟩;have B0:=((fK.new w _ _).alloc _).below hb1 (by simp;omega);have B1:=(fK.new1 w _ _ _).below hb1 (by simp);obtain ⟨c0,c1,c2,c3,c4,c5,c6,c7,cf⟩:=B0.Ar;obtain ⟨r0,r1,rf⟩:=B1.uj;have hz0:w.heap.size<w1.heap.size:=B0.lt;have hz1:w.heap.size+1<w1.heap.size:=B1.lt;have HB:Hid (Below w.heap.size w w1):=Lib.hid (Below.trans (by go_grown) (hb1.mono (by simp;omega)));clear hb1;by_cases hz:z=0
 ·subst hz;by_cases q0:q<0
  ·have e:=HR.out;rw [if_neg (by omega),if_pos (by omega)] at e;subst e
   go_wp2_with fail
   refine bodyPost_ret (v:= .tuple #[.agg #[.int .i64 0,.int .i64 0],.int .i64 2]) (by simp [results,Tryz.results98,go_sem,r0,r1]) rfl ?_;have hB:=HB.out;exact ⟨rfl,by go_grown⟩
  by_cases q4:4<=q
  ·have e:=HR.out;rw [if_neg (by omega),if_pos (by omega)] at e;subst e
   go_wp2_with fail
   refine bodyPost_ret (v:= .tuple #[.agg #[.int .i64 0,.int .i64 0],.int .i64 2]) (by simp [results,Tryz.results98,go_sem,r0,r1]) rfl ?_;have hB:=HB.out;exact ⟨rfl,by go_grown⟩
  rcases (show q=0\/q=1\/q=2\/q=3 by omega) with rfl | rfl | rfl | rfl
  ·have e:=HR.out;rw [if_neg (by omega),if_neg (by omega)] at e;subst e
   go_wp2_with fail
   refine bodyPost_ret (v:= .tuple #[.agg #[.int .i64 n0,.int .i64 e0],.int .i64 0]) (by simp [results,Tryz.results98,go_sem,r0,r1]) rfl ?_;have hB:=HB.out;exact ⟨rfl,by go_grown⟩
  ·have e:=HR.out;rw [if_neg (by omega),if_neg (by omega)] at e;subst e
   go_wp2_with fail
   refine bodyPost_ret (v:= .tuple #[.agg #[.int .i64 n1,.int .i64 e1],.int .i64 0]) (by simp [results,Tryz.results98,go_sem,r0,r1]) rfl ?_;have hB:=HB.out;exact ⟨rfl,by go_grown⟩
  ·have e:=HR.out;rw [if_neg (by omega),if_neg (by omega)] at e;subst e
   go_wp2_with fail
   refine bodyPost_ret (v:= .tuple #[.agg #[.int .i64 n2,.int .i64 e2],.int .i64 0]) (by simp [results,Tryz.results98,go_sem,r0,r1]) rfl ?_;have hB:=HB.out;exact ⟨rfl,by go_grown⟩
  have e:=HR.out;rw [if_neg (by omega),if_neg (by omega)] at e;subst e
  go_wp2_with fail
  refine bodyPost_ret (v:= .tuple #[.agg #[.int .i64 n3,.int .i64 e3],.int .i64 0]) (by simp [results,Tryz.results98,go_sem,r0,r1]) rfl ?_;have hB:=HB.out;exact ⟨rfl,by go_grown⟩
 have e:=HR.out;rw [if_pos hz] at e;subst e
 go_wp2_with fail
 refine bodyPost_ret (v:= .tuple #[.agg #[.int .i64 0,.int .i64 0],.int .i64 z]) (by simp [results,Tryz.results98,go_sem,r0,r1]) rfl ?_;have hB:=HB.out;exact ⟨rfl,by go_grown⟩
theorem Xq {d:Dir} {q:Int} (h:(p9 d q).2=0):0<=q/\q<=3:=by
 by_cases hf:gD d=0
 ·by_cases hq:q<0\/3<q
  ·rw [Je hf hq] at h
   cases h
  exact ⟨by omega,by omega⟩
 rw [Jd hf] at h;exact absurd h hf
noncomputable def vU (d:Dir) (q node:Int):Dir×Int:=
 if (p9 d q).2≠0 then (ko,(p9 d q).2) else if node<0\/4<node then (ko,2) else if (p9 d q).1≠nowhere then (ko,8) else (d.set q.toNat ⟨node,1⟩,0)
theorem Fp {d:Dir} {q:Int} (h:(bO d q).2=0):0<=q/\q<=3/\(bO d q).1=d.at q.toNat/\(bO d q).1≠nowhere/\yD (bO d q).1:=by
 by_cases hf:gD d=0
 ·by_cases hq:q<0\/3<q
  ·rw [Ny hf hq] at h
   cases h
  by_cases hn:d.at q.toNat=nowhere
  ·rw [Qy hf hq hn] at h
   cases h
  rw [Qz hf hq hn];exact ⟨by omega,by omega,rfl,hn,KM hf _ (by omega)⟩
 rw [Nv hf] at h;exact absurd h hf
noncomputable def Kg (d:Dir) (q epoch node:Int):Dir×Int:=
 if (bO d q).2≠0 then (ko,(bO d q).2) else if node<0\/4<node then (ko,2) else if (bO d q).1.epoch≠epoch then (ko,15)
 else if (bO d q).1.node=node then (ko,8) else if epoch=1048576 then (ko,14) else (d.set q.toNat ⟨node,epoch+1⟩,0)
theorem mG (d:Dir) (q:Int) (w:World) (hn:Nw w):Calls Tryz.prog 77 #[d.val,iV q] w (aaT w (bO d q)):=by
 have HN:=Lib.hid hn;have HC:=Lib.hid (λw h=>La d q w h);have HR:Hid (bO d q=if (p9 d q).2=0/\(p9 d q).1=nowhere then (mg,7) else p9 d q):=Lib.hid rfl;clear hn;generalize bO d q=r at*;generalize p9 d q=a at*;obtain ⟨⟨pn,pe⟩,z⟩:=a;have hq:=Jc ⟨pn,pe⟩ nowhere;unfold nowhere at hq;simp only at hq;obtain ⟨⟨n0,e0⟩,⟨n1,e1⟩,⟨n2,e2⟩,⟨n3,e3⟩⟩:=d;unfold Dir.val at*;simp only at HC HR⊢
 go_enter Tryz.func77,Tryz.ntmps77
 go_wp2_with fail
 refine (HC.out _ (HN.out.on (by go_grown))).mono ?_;rintro e w1 ⟨rfl,hb1⟩;have B1:=(fK.new1 w _ _ _).below hb1 (by simp);obtain ⟨r0,r1,rf⟩:=B1.uj;have hz1:w.heap.size+1<w1.heap.size:=B1.lt;have HB:Hid (Below w.heap.size w w1):=Lib.hid (Below.trans (by go_grown) (hb1.mono (by simp;omega)));obtain ⟨g0,g1,g2⟩:=HN.out.on HB.out;clear hb1;by_cases hz:z=0
 ·by_cases hp:(⟨pn,pe⟩:Pl)=nowhere
  ·have e:=HR.out;rw [if_pos ⟨hz,hp⟩] at e;subst e;subst hz;have hd:decide ((⟨pn,pe⟩:Pl)=⟨-1,0⟩)=true:=by simpa [nowhere] using hp
   rw [hd] at hq;clear hp hd
   go_wp2_with fail
   refine bodyPost_ret (v:= .tuple #[.agg #[iV 0,iV 0],iV 7]) (by simp [results,Tryz.results77,go_sem,World.cell?_alloc_lt,hz1,r0,r1]) rfl ?_;have hB:=HB.out;exact ⟨rfl,by go_grown⟩
  have e:=HR.out;rw [if_neg (λh=>hp h.2)] at e;subst e;subst hz;have hd:decide ((⟨pn,pe⟩:Pl)=⟨-1,0⟩)=false:=by simpa [nowhere] using hp
  rw [hd] at hq;clear hp hd
  go_wp2_with fail
  refine bodyPost_ret (v:= .tuple #[.agg #[iV pn,iV pe],iV 0]) (by simp [results,Tryz.results77,go_sem,World.cell?_alloc_lt,hz1,r0,r1]) rfl ?_;have hB:=HB.out;exact ⟨rfl,by go_grown⟩
 have e:=HR.out;rw [if_neg (λh=>hz h.1)] at e;subst e;have hz':(z==0)=false:=by simpa using hz
 clear hq
 go_wp2_with fail
 refine bodyPost_ret (v:= .tuple #[.agg #[iV pn,iV pe],iV z]) (by simp [results,Tryz.results77,go_sem,World.cell?_alloc_lt,hz1,r0,r1]) rfl ?_;have hB:=HB.out;exact ⟨rfl,by go_grown⟩
end
end Go.Proofs.YtnhimdkpkmbhlaaGreatDoor
