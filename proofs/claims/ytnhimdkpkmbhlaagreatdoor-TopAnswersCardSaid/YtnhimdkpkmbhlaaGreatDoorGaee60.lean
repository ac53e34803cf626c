import Derived.Laws.Tables
import Derived.Test.YtnhimdkpkmbhlaaGreatDoorG468ad
set_option maxRecDepth 100000
set_option maxHeartbeats 8000000
set_option linter.unusedSimpArgs false
set_option linter.unusedVariables false
namespace Go.Proofs.YtnhimdkpkmbhlaaGreatDoor
open ChangeShapes WideShapes ChangeAt RowKit
structure sw (w:World) (g:Nat) (w':World):Prop where
 os:w'.os=w.os
 tape:w'.tape=w.tape
 output:w'.output=w.output
 size:w'.heap.size=w.heap.size
 block: ∀ k,k≠g->w'.heap[k]? =w.heap[k]?
section
variable {w w' a:World} {g B:Nat}
theorem sw.below (h:sw w g w') (hB:B<=g):Below B w w':=⟨h.os,h.tape,h.output,Nat.le_of_eq h.size.symm,λk hk=>h.block k (by omega)⟩
theorem sw.next (h:sw w g w') (hb:Below B a w) (hB:B<=g):Below B a w':=hb.trans (h.below hB)
theorem sw.blk {b:Nat} {row:Array Value} {t:TypeId} (h:sw w g w') (hb:fK w b row t) (hne:b≠g):fK w' b row t:=⟨(h.block b hne).trans hb.blk⟩
theorem sw.own {base:Nat} {e:TypeId} {size:Nat} {v:Value} {n:Nat} {xs:List Value} (h:sw w g w') (ho:w.ownsRow base e size v n xs) (hne: ∀ k,v.ownBlock=some k->k≠g):w'.ownsRow base e size v n xs:=by
 obtain ⟨h1,h2⟩:=ho;refine ⟨h1,?_⟩
 rcases h2 with h2 | ⟨k,cap,cur,hv,hk,hh,r⟩
 ·exact .inl h2
 exact .inr ⟨k,cap,cur,hv,hk,(h.block k (hne k (by rw [hv];rfl))).trans hh,r⟩
theorem sw.rd {size n:Nat} {A:Option Addr} {xs:List Value} (h:sw w g w') (hr:Rd w B size A n xs) (hB:B<=g):Rd w' B size A n xs:=hr.below (h.below hB) (Nat.le_refl _)
theorem CG {base:Nat} {e:TypeId} {size:Nat} {v:Value} {n:Nat} {xs:List Value} (h:w.ownsRow base e size v n xs) (k:Nat) (hk:v.ownBlock=some k):k<w.heap.size:=by
 rcases h.2 with ⟨rfl,_⟩ | ⟨g',cap,cur,rfl,_,hh,_⟩
 ·simp [Value.ownBlock] at hk
 simp [Value.ownBlock] at hk;subst hk
 rcases Nat.lt_or_ge g' w.heap.size with h | h
 ·exact h
 rw [Array.getElem?_eq_none h] at hh;cases hh
theorem Qw (w:World) (a:Addr) (u:Value):sw w a.block (w.setCell a u):=by
 refine ⟨rfl,rfl,rfl,by simp [World.setCell],λk hk=>?_⟩;exact Below.heap_setCell _ _ _ _ hk
theorem CJ (w:World) (g k:Nat) (u:Value):sw w g (w.setCell ⟨g,k,none⟩ u):=Qw w ⟨g,k,none⟩ u
theorem Et (w:World) (g:Nat):sw w g w.drew:=⟨rfl,rfl,rfl,rfl,λ_ _=>rfl⟩
theorem sw.trans {w w' w'':World} {g:Nat} (h:sw w g w') (h':sw w' g w''):sw w g w'':=⟨h'.os.trans h.os,h'.tape.trans h.tape,h'.output.trans h.output,h'.size.trans h.size,λk hk=>(h'.block k hk).trans (h.block k hk)⟩
theorem Uf (w:World) (g:Nat) (cs:Array Value):sw w g (w.setRow g cs):=by
 refine ⟨rfl,rfl,rfl,by simp,λk hk=>?_⟩;simp only [World.setRow,Array.getElem?_modify];rw [if_neg (by omega)]
end
section
variable {P:Program}
theorem wp_store_row {o:Oper} {a:Act} {w:World} {K:Act->World->Prop} {Q:Exit->Act->World->Prop} (ty:TypeId) (x y:Operand) (ho:o.op= .store ty x y)
  (g:Nat) (hx:a.eval x= .pointer (some ⟨g,0,none⟩)) (cs:Array Value) (hy:a.eval y= .agg cs) (t:TypeId) (cur:Array Value) (hg:fK w g cur t)
  (hi:(P.info? ty).map (·.size)=some cs.size) (hs:cur.size=cs.size) (h1:cs.toList.all (·.oneCell')=true)
  (h: ∀ w',fK w' g cs t->sw w g w'->K (a.put o.dst undef) w'):o.wp P a w K Q:=by
 have h1:cs.all (·.oneCell')=true:=by simpa using h1
 have hk:=h (w.setRow g cs) ⟨setRow_heap w g cur cs t (0,0) hg.blk⟩ (Uf w g cs);unfold Oper.wp execOp;simp only [ho,hx,hy,Instr.storeAt,Instr.sureAddr,Sem.run_bind,Sem.run_pure,Result.andThen_ok,run_storeVar_row w g t ty cur cs hg.blk hi hs h1];exact hk
theorem tZ {ops:Array Oper} {o:Oper} {a:Act} {w:World} {K:Act->World->Prop} {Q:Exit->Act->World->Prop} {E:Prop} (hgd:o.guard=none) (ty:TypeId) (x y:Operand) (ho:o.op= .store ty x y)
  (g:Nat) (hx:a.eval x= .pointer (some ⟨g,0,none⟩)) (cs:Array Value) (hy:a.eval y= .agg cs) (t:TypeId) (cur:Array Value) (hg:fK w g cur t)
  (hi:(P.info? ty).map (·.size)=some cs.size) (hs:cur.size=cs.size) (h1:cs.toList.all (·.oneCell')=true)
  (h: ∀ w',fK w' g cs t->sw w g w'->K (a.put o.dst undef) w'):if Region.wanted o (yielded ops a.tmps)=true then Oper.wp P o a w K Q else E:=by
 rw [if_pos (by simp [Region.wanted,hgd])];exact wp_store_row ty x y ho g hx cs hy t cur hg hi hs h1 h
theorem wpList_store_row {ops:Array Oper} {rest:List Oper} {o:Oper} {a:Act} {w:World} {Q:Exit->Act->World->Prop} (hgd:o.guard=none) (ty:TypeId) (x y:Operand) (ho:o.op= .store ty x y)
  (g:Nat) (hx:a.eval x= .pointer (some ⟨g,0,none⟩)) (cs:Array Value) (hy:a.eval y= .agg cs) (t:TypeId) (cur:Array Value) (hg:fK w g cur t)
  (hi:(P.info? ty).map (·.size)=some cs.size) (hs:cur.size=cs.size) (h1:cs.toList.all (·.oneCell')=true)
  (h: ∀ w',fK w' g cs t->sw w g w'->wpList P ops Q rest (a.put o.dst undef) w'):wpList P ops Q (o::rest) a w:=
 wpList_plain hgd λ_ hK=>wp_store_row ty x y ho g hx cs hy t cur hg hi hs h1 (λw' hb hu=>hK _ _ (h w' hb hu))
end
def nE (w:World) (B:Nat) (e:TypeId) (size:Nat) (A:Option Addr) (n c:Nat) (xs:List Value):Prop:=
 xs.length=n*size/\n<=c/\c<=maxLen/\((A=none/\c=0)\/ ∃ g o cur,A=some ⟨g,o,none⟩/\B<=g/\w.heap[g]? =some (.cells cur e)/\o+c*size<=cur.size/\(cur.toList.drop o).take (n*size)=xs)
inductive Fact
 | blk (b:Nat) (row:Array Value) (t:TypeId)
 | own (e:TypeId) (size:Nat) (v:Value) (n:Nat) (xs:List Value)
 | rd (size:Nat) (A:Option Addr) (n:Nat) (xs:List Value)
 | loc (b:Nat) (R:Obj->Prop)
 | cZ (size:Nat) (A:Option Addr) (n:Nat) (xs:List Value)
 | off (e:TypeId) (size:Nat) (A:Option Addr) (n c:Nat) (xs:List Value)
def Fact.foot:Fact->Option Nat
 | .blk b _ _=>some b
 | .own _ _ v _ _=>v.ownBlock
 | .rd .. =>none
 | .loc b _=>some b
 | .cZ _ A _ _=>A.map (·.block)
 | .off _ _ A _ _ _=>A.map (·.block)
def Fact.holds (B:Nat) (w:World):Fact->Prop
 | .blk b row t=>B<=b/\fK w b row t
 | .own e s v n xs=>w.ownsRow B e s v n xs
 | .rd s A n xs=>Rd w B s A n xs
 | .loc b R=>B<=b/\ ∃ o,w.heap[b]? =some o/\R o
 | .cZ s A n xs=>Rd w w.heap.size s A n xs/\ ∀ a,A=some a->B<=a.block/\a.block<w.heap.size
 | .off e s A n c xs=>nE w B e s A n c xs
structure St (B:Nat) (w0 w:World) (fs:List Fact):Prop where
 low:Below B w0 w
 base:B<=w.heap.size
 all: ∀ (i:Nat) (f:Fact),fs[i]? =some f->f.holds B w
 sep: ∀ (i j:Nat) (f g:Fact),i≠j->fs[i]? =some f->fs[j]? =some g-> ∀ k,f.foot=some k->g.foot≠some k
theorem ab5 {w w':World} {base:Nat} {e:TypeId} {size:Nat} {v:Value} {n:Nat} {xs:List Value} (h:w.ownsRow base e size v n xs) (hk: ∀ k,v.ownBlock=some k->w'.heap[k]? =w.heap[k]?):w'.ownsRow base e size v n xs:=by
 obtain ⟨h1,h2⟩:=h;refine ⟨h1,?_⟩
 rcases h2 with h2 | ⟨k,cap,cur,hv,hk1,hh,r⟩
 ·exact .inl h2
 exact .inr ⟨k,cap,cur,hv,hk1,(hk k (by rw [hv];rfl)).trans hh,r⟩
section
variable {B:Nat} {w0 w w':World} {fs:List Fact}
theorem Fact.l6 {f:Fact} {k:Nat} (h:f.holds B w) (hk:f.foot=some k):B<=k/\k<w.heap.size:=by
 cases f with
 | blk b row t=>cases hk;exact ⟨h.1,h.2.lt⟩
 | own e s v n xs=>exact ⟨World.ownsRow.yj h k hk,CG h k hk⟩
 | rd s A n xs=>cases hk
 | loc b R=>
  cases hk;obtain ⟨h1,o,h2,_⟩:=h;exact ⟨h1,(Array.getElem?_eq_some_iff.1 h2).1⟩
 | cZ s A n xs=>
  cases A with
  | none=>cases hk
  | some a=>cases hk;exact h.2 a rfl
 | off e s A n c xs=>
  obtain ⟨_,_,_,⟨rfl,_⟩ | ⟨g,o,cur,rfl,h1,h2,_⟩⟩:=h
  ·cases hk
  cases hk;exact ⟨h1,(Array.getElem?_eq_some_iff.1 h2).1⟩
theorem Fact.keep {f:Fact} (h:f.holds B w) (hb: ∀ k,k<B->w'.heap[k]? =w.heap[k]?) (hk: ∀ k,f.foot=some k->w'.heap[k]? =w.heap[k]?):f.holds B w':=by
 cases f with
 | blk b row t=>exact ⟨h.1,⟨(hk b rfl).trans h.2.blk⟩⟩
 | own e s v n xs=>exact ab5 h hk
 | rd s A n xs=>exact Rd.keep h λp hp=>World.cell?_of_block (hb _ hp)
 | loc b R=>
  obtain ⟨h1,o,h2,h3⟩:=h;exact ⟨h1,o,(hk b rfl).trans h2,h3⟩
 | cZ s A n xs=>
  obtain ⟨h1,h2⟩:=h;have hz: ∀ a,A=some a->a.block<w'.heap.size:=λa ha=>by
   have h3:=hk a.block (by rw [ha];rfl);rw [Array.getElem?_eq_getElem (h2 a ha).2] at h3;exact (Array.getElem?_eq_some_iff.1 h3).1
  refine ⟨⟨h1.1,λhn=>?_⟩,λa ha=>⟨(h2 a ha).1,hz a ha⟩⟩;obtain ⟨b,off,e,_,hc⟩:=h1.2 hn;exact ⟨b,off,e,hz _ e,λj u hu=>(World.cell?_of_block (hk b (by rw [e];rfl))).trans (hc j u hu)⟩
 | off e s A n c xs=>
  obtain ⟨h1,h2,h3,h | ⟨g,o,cur,e1,h4,h5,h6⟩⟩:=h
  ·exact ⟨h1,h2,h3,.inl h⟩
  exact ⟨h1,h2,h3,.inr ⟨g,o,cur,e1,h4,(hk g (by rw [e1];rfl)).trans h5,h6⟩⟩
theorem St.start (w:World):St w.heap.size w w []:=⟨Below.refl _ _,Nat.le_refl _,λi f h=>by simp at h,λi j f g _ h=>by simp at h⟩
theorem St.le (S:St B w0 w fs):w0.heap.size<=w.heap.size:=S.low.size
theorem St.cons {f:Fact} (S:St B w0 w fs) (h:f.holds B w) (hs: ∀ k,f.foot=some k-> ∀ (i:Nat) (g:Fact),fs[i]? =some g->g.foot≠some k):St B w0 w (f::fs):=by
 refine ⟨S.low,S.base,λi g hg=>?_,λi j g g' hij hi hj k hk hk'=>?_⟩
 ·cases i with
  | zero=>simp at hg;subst hg;exact h
  | succ i=>exact S.all i g (by simpa using hg)
 cases i with
 | zero=>
  simp at hi;subst hi
  cases j with
  | zero=>exact hij rfl
  | succ j=>exact hs k hk j g' (by simpa using hj) hk'
 | succ i=>
  cases j with
  | zero=>simp at hj;subst hj;exact hs k hk' i g (by simpa using hi) hk
  | succ j=>exact S.sep i j g g' (by omega) (by simpa using hi) (by simpa using hj) k hk hk'
theorem St.bZ {s:Nat} {A:Option Addr} {n:Nat} {xs:List Value} (S:St B w0 w fs) (h:Rd w B s A n xs):St B w0 w (.rd s A n xs::fs):=S.cons h λk hk=>by cases hk
theorem St.on (S:St B w0 w fs) (hb:Below w.heap.size w w'):St B w0 w' fs:=by
 refine ⟨S.low.trans (hb.mono S.base),Nat.le_trans S.base hb.size,λi f hf=>?_,S.sep⟩;have h:=S.all i f hf;exact Fact.keep h (λk hk=>hb.block k (by have:=S.base;omega)) (λk hk=>hb.block k (Fact.l6 h hk).2)
theorem St.drew (S:St B w0 w fs):St B w0 w.drew fs:=S.on ⟨rfl,rfl,rfl,Nat.le_refl _,λ_ _=>rfl⟩
theorem St.drewN (S:St B w0 w fs) (q:Nat):St B w0 (w.drewN q) fs:=S.on ⟨rfl,rfl,rfl,Nat.le_refl _,λ_ _=>rfl⟩
theorem St.alloc {row:Array Value} {t:TypeId} (S:St B w0 w fs):St B w0 (w.alloc (.cells row t)) (.blk w.heap.size row t::fs):=by
 have S1:St B w0 (w.alloc (.cells row t)) fs:=S.on ((Below.refl _ _).alloc (Nat.le_refl _) _);refine S1.cons ⟨S.base,fK.new _ _ _⟩ λk hk i g hg e=>?_
 cases hk;have:=(Fact.l6 (S.all i g hg) e).2;omega
theorem St.ak7 {o:Obj} (S:St B w0 w fs):St B w0 (w.alloc o) fs:=S.on ((Below.refl _ _).alloc (Nat.le_refl _) _)
theorem St.sD {e:TypeId} {s:Nat} {v:Value} {n:Nat} {xs:List Value} (S:St B w0 w fs) (hb:Below w.heap.size w w') (ho:w'.ownsRow w.heap.size e s v n xs):St B w0 w' (.own e s v n xs::fs):=by
 refine (S.on hb).cons (ho.lower S.base) λk hk i g hg e=>?_;have h1:=ho.yj k hk;have:=(Fact.l6 (S.all i g hg) e).2;omega
theorem St.Pe {o:Obj} {R:Obj->Prop} (S:St B w0 w fs) (hR:R o):St B w0 (w.alloc o) (.loc w.heap.size R::fs):=by
 have S1:St B w0 (w.alloc o) fs:=S.ak7;refine S1.cons ⟨S.base,o,by show (w.heap.push _)[_]? =_;rw [Array.getElem?_push,if_pos rfl],hR⟩ λk hk i g hg e=>?_
 cases hk;have:=(Fact.l6 (S.all i g hg) e).2;omega
theorem St.cut {f:Fact} (S:St B w0 w (f::fs)):St B w0 w fs:=
 ⟨S.low,S.base,λi g hg=>S.all (i+1) g (by simpa using hg),λi j f g hij hi hj=>S.sep (i+1) (j+1) f g (by omega) (by simpa using hi) (by simpa using hj)⟩
theorem St.turn {f f':Fact} (i:Nat) (S:St B w0 w fs) (hi:fs[i]? =some f) (hlow:Below B w0 w') (hz:w.heap.size<=w'.heap.size) (hb: ∀ k,k<w.heap.size->f.foot≠some k->w'.heap[k]? =w.heap[k]?) (hf:f'.holds B w')
  (hff: ∀ k,f'.foot=some k->f.foot=some k\/w.heap.size<=k):St B w0 w' (fs.set i f'):=by
 have hil:i<fs.length:=(List.getElem?_eq_some_iff.1 hi).1;have ahS: ∀ (j:Nat) (g:Fact),j≠i->fs[j]? =some g-> ∀ k,f'.foot=some k->g.foot≠some k:=by
  intro j g hji hj k hk e
  rcases hff k hk with h | h
  ·exact S.sep j i g f hji hj hi k e h
  have:=(Fact.l6 (S.all j g hj) e).2;omega
 refine ⟨hlow,Nat.le_trans S.base hz,λj g hg=>?_,λj j' g g' hjj hj hj' k hk hk'=>?_⟩
 ·by_cases e:j=i
  ·subst e;rw [List.getElem?_set_self hil] at hg
   cases hg;exact hf
  rw [List.getElem?_set_ne (λh=>e h.symm)] at hg;have h:=S.all j g hg;have hb':=S.base;exact Fact.keep h (λk hk=>hb k (by omega) (λe2=>by have:=(Fact.l6 (S.all i f hi) e2).1;omega))
   (λk hk=>hb k (Fact.l6 h hk).2 (S.sep j i g f e hg hi k hk))
 by_cases e:j=i
 ·subst e;rw [List.getElem?_set_self hil] at hj
  cases hj;rw [List.getElem?_set_ne (λh=>hjj h)] at hj';exact ahS j' g' (λh=>hjj h.symm) hj' k hk hk'
 rw [List.getElem?_set_ne (λh=>e h.symm)] at hj;by_cases e':j'=i
 ·subst e';rw [List.getElem?_set_self hil] at hj'
  cases hj';exact ahS j g e hj k hk' hk
 rw [List.getElem?_set_ne (λh=>e' h.symm)] at hj';exact S.sep j j' g g' hjj hj hj' k hk hk'
theorem St.set {b:Nat} {row row':Array Value} {t t':TypeId} (i:Nat) (S:St B w0 w fs) (hi:fs[i]? =some (.blk b row t)) (hu:sw w b w') (hb:fK w' b row' t'):St B w0 w' (fs.set i (.blk b row' t')):=by
 have h:=(S.all i _ hi).1;exact S.turn i hi (hu.next S.low h) (Nat.le_of_eq hu.size.symm) (λk _ hk=>hu.block k (λe=>hk (by rw [e];rfl))) ⟨h,hb⟩ (λk hk=> .inl hk)
theorem St.setCell {b:Nat} {row:Array Value} {t:TypeId} (i k:Nat) (u:Value) (S:St B w0 w fs) (hi:fs[i]? =some (.blk b row t)):St B w0 (w.setCell ⟨b,k,none⟩ u) (fs.set i (.blk b (row.setIfInBounds k u) t)):=
 S.set i hi (CJ w b k u) ((S.all i _ hi).2.uM k u)
theorem St.RL {b:Nat} {R R':Obj->Prop} {o:Obj} (i:Nat) (S:St B w0 w fs) (hi:fs[i]? =some (.loc b R)) (hu:sw w b w') (ho:w'.heap[b]? =some o) (hR:R' o):St B w0 w' (fs.set i (.loc b R')):=by
 have h:=(S.all i _ hi).1;exact S.turn i hi (hu.next S.low h) (Nat.le_of_eq hu.size.symm) (λk _ hk=>hu.block k (λe=>hk (by rw [e];rfl))) ⟨h,o,ho,hR⟩ (λk hk=> .inl hk)
theorem St.loc {b:Nat} {R:Obj->Prop} (i:Nat) (S:St B w0 w fs) (hi:fs[i]? =some (.loc b R)): ∃ o,w.heap[b]? =some o/\R o:=(S.all i _ hi).2
theorem St.append {e e':TypeId} {s s':Nat} {v v':Value} {n n':Nat} {xs xs':List Value} (i:Nat) (S:St B w0 w fs) (hi:fs[i]? =some (.own e s v n xs)) (hg:w.grownBy w' v.ownBlock) (ho:w'.ownsRow B e' s' v' n' xs')
  (hat:v'.ownBlock=v.ownBlock\/v'.ownBlock=some w.heap.size):St B w0 w' (fs.set i (.own e' s' v' n' xs')):=by
 have h:=S.all i _ hi;refine S.turn i hi (S.low.grown hg S.base (λk hk=>(Fact.l6 h hk).1)) hg.size (λk hk hne=>hg.block k hk (λe=>hne e.symm)) ho (λk hk=>?_);have hk':v'.ownBlock=some k:=hk
 rcases hat with h1 | h1
 ·exact .inl (by rw [<-hk',h1];rfl)
 rw [hk'] at h1
 cases h1;exact .inr (Nat.le_refl _)
theorem St.re (is:List Nat) (S:St B w0 w fs) (hn:is.Nodup):St B w0 w (is.filterMap λi=>fs[i]?):=by
 have key: ∀ (is:List Nat),is.Nodup-> ∀ (a:Nat) (f:Fact),(is.filterMap λi=>fs[i]?)[a]? =some f-> ∃ i,i∈is/\fs[i]? =some f:=by
  intro is _ a f h;have hm:=List.mem_of_getElem? h;rw [List.mem_filterMap] at hm;obtain ⟨i,h1,h2⟩:=hm;exact ⟨i,h1,h2⟩
 have key2: ∀ (is:List Nat),is.Nodup-> ∀ (a c:Nat) (f g:Fact),a≠c->(is.filterMap λi=>fs[i]?)[a]? =some f->(is.filterMap λi=>fs[i]?)[c]? =some g-> ∃ (i j:Nat),i≠j/\fs[i]? =some f/\fs[j]? =some g:=by
  intro is
  induction is with
  | nil=>intro _ a c f g _ h;simp at h
  | cons i is ih=>
   intro hn a c f g hac ha hc;obtain ⟨h1,h2⟩:=List.nodup_cons.1 hn;rw [List.filterMap_cons] at ha hc
   cases hi:fs[i]? with
   | none=>rw [hi] at ha hc;exact ih h2 a c f g hac ha hc
   | some x=>
    rw [hi] at ha hc
    cases a with
    | zero=>
     simp at ha
     cases c with
     | zero=>exact absurd rfl hac
     | succ c=>
      obtain ⟨j,hj,hjg⟩:=key is h2 c g (by simpa using hc);exact ⟨i,j,λe=>h1 (e▸hj),by rw [hi,ha],hjg⟩
    | succ a=>
     cases c with
     | zero=>
      simp at hc;obtain ⟨j,hj,hjf⟩:=key is h2 a f (by simpa using ha);exact ⟨j,i,λe=>h1 (e▸hj),hjf,by rw [hi,hc]⟩
     | succ c=>exact ih h2 a c f g (by omega) (by simpa using ha) (by simpa using hc)
 refine ⟨S.low,S.base,λa f hf=>?_,λa c f g hac ha hc=>?_⟩
 ·obtain ⟨i,_,hi⟩:=key is hn a f hf;exact S.all i f hi
 obtain ⟨i,j,hij,hi,hj⟩:=key2 is hn a c f g hac ha hc;exact S.sep i j f g hij hi hj
theorem St.del (i:Nat) (S:St B w0 w fs):St B w0 w (fs.eraseIdx i):=by
 have key: ∀ (a:Nat) (f:Fact),(fs.eraseIdx i)[a]? =some f->fs[if a<i then a else a+1]? =some f:=by
  intro a f h;rw [List.getElem?_eraseIdx] at h
  split at h
  ·rename_i e;rw [if_pos e];exact h
  rename_i e;rw [if_neg e];exact h
 refine ⟨S.low,S.base,λa f h=>S.all _ f (key a f h),λa c f g hac ha hc=>S.sep _ _ f g ?_ (key a f ha) (key c g hc)⟩
 split<;>split<;>omega
theorem St.blk {b:Nat} {row:Array Value} {t:TypeId} (i:Nat) (S:St B w0 w fs) (hi:fs[i]? =some (.blk b row t)):fK w b row t:=(S.all i _ hi).2
theorem St.own {e:TypeId} {s:Nat} {v:Value} {n:Nat} {xs:List Value} (i:Nat) (S:St B w0 w fs) (hi:fs[i]? =some (.own e s v n xs)):w.ownsRow B e s v n xs:=S.all i _ hi
theorem St.rd {s:Nat} {A:Option Addr} {n:Nat} {xs:List Value} (i:Nat) (S:St B w0 w fs) (hi:fs[i]? =some (.rd s A n xs)):Rd w w.heap.size s A n xs:=(show Rd w B s A n xs from S.all i _ hi).more S.base
theorem St.ord {e:TypeId} {s:Nat} {A:Option Addr} {c n:Nat} {xs:List Value} (i:Nat) (S:St B w0 w fs) (hi:fs[i]? =some (.own e s (.slice A n c) n xs)):Rd w w.heap.size s A n xs:=Rd.rO (S.own i hi)
theorem St.lt {b:Nat} {row:Array Value} {t:TypeId} (i:Nat) (S:St B w0 w fs) (hi:fs[i]? =some (.blk b row t)):b<w.heap.size:=(S.blk i hi).lt
theorem St.ge {b:Nat} {row:Array Value} {t:TypeId} (i:Nat) (S:St B w0 w fs) (hi:fs[i]? =some (.blk b row t)):B<=b:=(S.all i _ hi).1
def Fact.F3:Fact->Bool
 | .rd .. =>false
 | _=>true
theorem Fact.lower {f:Fact} {C:Nat} (h:f.holds C w) (hf:f.F3=true) (hC:B<=C):f.holds B w:=by
 cases f with
 | blk b row t=>exact ⟨Nat.le_trans hC h.1,h.2⟩
 | own e s v n xs=>exact World.ownsRow.lower h hC
 | rd s A n xs=>cases hf
 | loc b R=>exact ⟨Nat.le_trans hC h.1,h.2⟩
 | cZ s A n xs=>exact ⟨h.1,λa ha=>⟨Nat.le_trans hC (h.2 a ha).1,(h.2 a ha).2⟩⟩
 | off e s A n c xs=>
  obtain ⟨h1,h2,h3,h | ⟨g,o,cur,e1,h4,h5⟩⟩:=h
  ·exact ⟨h1,h2,h3,.inl h⟩
  exact ⟨h1,h2,h3,.inr ⟨g,o,cur,e1,Nat.le_trans hC h4,h5⟩⟩
theorem St.ext {gs:List Fact} (S:St B w0 w fs) (T:St w.heap.size w w' gs) (hg:gs.all Fact.F3=true):St B w0 w' (gs++fs):=by
 have S1:=S.on T.low
 induction gs with
 | nil=>exact S1
 | cons g gs ih=>
  simp only [List.all_cons,Bool.and_eq_true] at hg;refine (ih T.cut hg.2).cons (Fact.lower (T.all 0 g rfl) hg.1 S.base) λk hk i g' hg' e=>?_;have h1:=(Fact.l6 (T.all 0 g rfl) hk).1
  rcases Nat.lt_or_ge i gs.length with hi | hi
  ·rw [List.getElem?_append_left hi] at hg';exact T.sep 0 (i+1) g g' (by omega) rfl (by simpa using hg') k hk e
  rw [List.getElem?_append_right hi] at hg';have:=(Fact.l6 (S.all _ g' hg') e).2;omega
theorem St.cZ {s:Nat} {A:Option Addr} {n:Nat} {xs:List Value} (i:Nat) (S:St B w0 w fs) (hi:fs[i]? =some (.cZ s A n xs)):Rd w w.heap.size s A n xs:=(S.all i _ hi).1
theorem St.seal {e:TypeId} {s:Nat} {A:Option Addr} {c n:Nat} {xs:List Value} {A':Option Addr} {n':Nat} {xs':List Value} (i:Nat) (S:St B w0 w fs) (hi:fs[i]? =some (.own e s (.slice A n c) n xs)) (hR:Rd w w.heap.size s A' n' xs')
  (hA: ∀ a',A'=some a'-> ∃ a,A=some a/\a.block=a'.block):St B w0 w (fs.set i (.cZ s A' n' xs')):=by
 have hf: ∀ a',A'=some a'->(Fact.own e s (.slice A n c) n xs).foot=some a'.block:=λa' ha=>by
  obtain ⟨a,h1,h2⟩:=hA a' ha;rw [h1,<-h2];rfl
 refine S.turn i hi S.low (Nat.le_refl _) (λ_ _ _=>rfl) ⟨hR,λa' ha=>Fact.l6 (S.all i _ hi) (hf a' ha)⟩ λk hk=> .inl ?_
 cases A' with
 | none=>cases hk
 | some a'=>cases hk;exact hf a' rfl
theorem St.bD {e:TypeId} {s:Nat} {A:Option Addr} {c n:Nat} {xs:List Value} (i:Nat) (S:St B w0 w fs) (hi:fs[i]? =some (.own e s (.slice A n c) n xs)):St B w0 w (fs.set i (.cZ s A n xs)):=
 S.seal i hi (S.ord i hi) λa h=>⟨a,h,rfl⟩
theorem St.bring {f:Fact} (i:Nat) (S:St B w0 w fs) (hi:fs[i]? =some f):St B w0 w (f::fs.eraseIdx i):=by
 refine (S.del i).cons (S.all i f hi) λk hk j g hg=>?_;have h:fs[if j<i then j else j+1]? =some g:=by
  rw [List.getElem?_eraseIdx] at hg
  split at hg
  ·rename_i e;rw [if_pos e];exact hg
  rename_i e;rw [if_neg e];exact hg
 exact S.sep i _ f g (by split<;>omega) hi h k hk
end
end Go.Proofs.YtnhimdkpkmbhlaaGreatDoor
