/- Parts of proofs: lemmas on memory, on single functions and on the plain models; no condition of their own. -/
import Derived.Test.YtbffmhpkenoogaaGreatDoorG1bb20d619a0e
import Derived.Test.YtbffmhpkenoogaaGreatDoorG90caf79bd7b2
set_option linter.unusedVariables false
set_option linter.unusedSimpArgs false
set_option linter.unnecessarySimpa false
set_option maxRecDepth 100000
set_option maxHeartbeats 8000000

namespace Go.Proofs.YtbffmhpkenoogaaGreatDoor
open Go.ChangeShapes Go.WideShapes Go.RowKit
def Fj (T:List bO) (q:Int):bO:=T.getD q.toNat bD
noncomputable def mG:List dx→Nat→List bO→Option (List bO)×Nat×Int
 | [],_,T=>(some T,0,0)
 | r::rs,i,T=>if aP r≠0 then (none,i,aP r) else if (dN (Fj T r.queue) r).2≠0 then (none,i,(dN (Fj T r.queue) r).2) else mG rs (i+1) (T.set r.queue.toNat (dN (Fj T r.queue) r).1)
noncomputable def allM (l:List dx):Option (List bO)×Nat×Int:=mG l 0 [bD,bD,bD,bD]
section
variable {l:List dx} {k:Nat} {r:dx} {T:List bO} {R:bO×Int}
theorem drop_cons {α:Type} {l:List α} {k:Nat} {x:α} (h:l[k]? =some x):l.drop k=x::l.drop (k+1):=by
 obtain ⟨hk,rfl⟩:=List.getElem?_eq_some_iff.1 h;exact List.drop_eq_getElem_cons hk
theorem aff (h:l[k]? =some r) (hf: ¬ aP r=0):mG (l.drop k) k T=(none,k,aP r):=by rw [drop_cons h,mG,if_pos hf]
theorem UW (h:l[k]? =some r) (hf:aP r=0) (hR:dN (Fj T r.queue) r=R) (ha: ¬ R.2=0):mG (l.drop k) k T=(none,k,R.2):=by subst hR;rw [drop_cons h,mG,if_neg (by simp [hf]),if_pos ha]
theorem Ol (h:l[k]? =some r) (hf:aP r=0) (hR:dN (Fj T r.queue) r=R) (ha:R.2=0):mG (l.drop k) k T=mG (l.drop (k+1)) (k+1) (T.set r.queue.toNat R.1):=by subst hR;rw [drop_cons h,mG,if_neg (by simp [hf]),if_neg (by simp [ha])]
theorem afg (h:l.length≤k):mG (l.drop k) k T=(some T,0,0):=by rw [List.drop_of_length_le h,mG]
end
structure BX where
 b:bO
 A:Option Addr
 c:Nat
def BX.cells (x:BX):List Value:=[.int .i64 x.b.role,.int .i64 x.b.ep,.int .i64 x.b.fr,.int .i64 x.b.tg,.int .i64 x.b.rd,.slice x.A x.b.evs.length x.c]
def MB:BX:=⟨bD,none,0⟩
def qW:List BX:=[MB,MB,MB,MB]
theorem afh (l:List BX): ∀ u∈l.flatMap BX.cells,u.oneCell'=true:=by
 intro u hu;rw [List.mem_flatMap] at hu;obtain ⟨z,_,hz⟩:=hu;simp [BX.cells] at hz
 rcases hz with rfl | rfl | rfl | rfl | rfl | rfl<;>rfl
def ZT (x:BX):Fact:= .bG 6 x.A x.b.evs.length (bg x.b.evs)
def dU (bs:List BX):List Fact:=bs.map ZT
section
variable {B:Nat} {w0 w:World} {bs:List BX} {k:Nat} {y:BX}
theorem afi {q:Int} (h:bs[q.toNat]? =some y):Fj (bs.map BX.b) q=y.b:=by
 unfold Fj;rw [List.getD_eq_getElem?_getD,List.getElem?_map,h];rfl
theorem ZU (pre:List Fact) (S:St B w0 w (pre++dU bs)) (h:bs[k]? =some y):Rd w w.heap.size 6 y.A y.b.evs.length (bg y.b.evs):=
 St.bG (pre.length+k) S (by rw [List.getElem?_append_right (Nat.le_add_right _ _),Nat.add_sub_cancel_left,dU,List.getElem?_map,h];rfl)
theorem St.pull {fs fs':List Fact} (σ:Nat→Nat) (S:St B w0 w fs) (hs: ∀ (i:Nat) (f:Fact),fs'[i]? =some f→fs[σ i]? =some f) (hi: ∀ i j:Nat,i≠j→i<fs'.length→j<fs'.length→σ i≠σ j):St B w0 w fs':=
 ⟨S.low,S.base,fun i f h=>S.all _ f (hs i f h),fun i j f g hij h1 h2=>S.sep _ _ f g (hi i j hij (List.getElem?_eq_some_iff.1 h1).1 (List.getElem?_eq_some_iff.1 h2).1) (hs i f h1) (hs j g h2)⟩
theorem ZV (pre:List Fact) {z:BX} (S:St B w0 w (pre++(ZT z::dU bs))) (hk:k<bs.length):St B w0 w (pre++dU (bs.set k z)):=by
 refine St.pull (fun i=>if i<pre.length then i else if i=pre.length+k then pre.length else i+1) S (fun i f h=>?_) (fun i j hij _ _=>?_)
 ·by_cases h1:i<pre.length
  ·simp only [if_pos h1];rw [List.getElem?_append_left h1] at h⊢;exact h
  obtain ⟨d,rfl⟩: ∃ d,i=pre.length+d:=⟨i-pre.length,by omega⟩;rw [List.getElem?_append_right (Nat.le_add_right _ _),Nat.add_sub_cancel_left,dU,List.map_set,List.getElem?_set] at h;simp only [if_neg h1];by_cases h2:k=d
  ·subst h2;rw [if_pos rfl] at h;rw [if_pos rfl,List.getElem?_append_right (Nat.le_refl _),Nat.sub_self];rw [List.length_map,if_pos hk] at h;exact h
  rw [if_neg h2] at h;rw [if_neg (by omega),List.getElem?_append_right (by omega),show pre.length+d+1-pre.length=d+1 from by omega];exact h
 repeat' split
 all_goals omega
theorem afj {f1 f2:Fact} (S:St B w0 w [f1,f2]):St B w0 w (f1::f2::dU qW):=(aJ (s:=6) (aJ (s:=6) (aJ (s:=6) (aJ (s:=6) S)))).re [4,5,0,1,2,3] (by decide)
end
theorem oI {α:Type} {enc:α→List Value} {sz:Nat} (hsz: ∀ x,(enc x).length=sz) (z:α): ∀ (k:Nat) (l:List α),k<l.length→qC (l.flatMap enc) (k*sz) (enc z)=(l.set k z).flatMap enc
 | _,[],h=>absurd h (Nat.not_lt_zero _)
 | 0,x::l,_=>by
  rw [List.flatMap_cons,Nat.zero_mul,List.set_cons_zero,List.flatMap_cons];have: ∀ (vs us xs:List Value),us.length=vs.length→qC (us++xs) 0 vs=vs++xs:=by
   have gen: ∀ (vs us ps xs:List Value),us.length=vs.length→qC (ps++(us++xs)) ps.length vs=ps++(vs++xs):=by
    intro vs
    induction vs with
    | nil=>intro us ps xs h;rw [List.length_eq_zero_iff.1 h];rfl
    | cons v vs ih=>
     intro us ps xs h;obtain ⟨u,us,rfl⟩: ∃ u us',us=u::us':=by
      cases us with
      | nil=>simp at h
      | cons u us=>exact ⟨u,us,rfl⟩
     rw [qC];have e:(ps++(u::us++xs)).set ps.length v=(ps++[v])++(us++xs):=by simp
     rw [e];have:=ih us (ps++[v]) xs (by simpa using h);rw [List.length_append] at this;rw [show ps.length+1=ps.length+[v].length from rfl,this];simp
   intro vs us xs h;exact gen vs us [] xs h
  exact this _ _ _ (by rw [hsz,hsz])
 | k+1,x::l,h=>by
  rw [List.flatMap_cons,List.set_cons_succ,List.flatMap_cons,←oI hsz z k l (by simpa using h)];have gen: ∀ (vs us xs:List Value) (j:Nat),qC (us++xs) (us.length+j) vs=us++qC xs j vs:=by
   intro vs
   induction vs with
   | nil=>intro us xs j;rfl
   | cons v vs ih=>
    intro us xs j;rw [qC,qC,List.set_append_right _ _ (Nat.le_add_right _ _),Nat.add_sub_cancel_left,Nat.add_assoc,ih]
  rw [Nat.succ_mul,Nat.add_comm,←hsz x,gen]
def akW (w:World) (R:Option (List bO)×Nat×Int) (e:Ending) (w':World):Prop:=
 (R.1=none→e= .returned (.tuple #[.slice none 0 0,.int .i64 ((R.2.1:Nat):Int),.int .i64 R.2.2])∧Below w.heap.size w w')∧
 (∀ T,R.1=some T→ ∃ b bs,bs.map BX.b=T∧bs.length=4∧(∀ y∈bs,y.b.evs.length≤y.c)∧e= .returned (.tuple #[.slice (some ⟨b,0,none⟩) 4 4,.int .i64 ((R.2.1:Nat):Int),.int .i64 R.2.2])∧St w.heap.size w w' (.own 42 6 (.slice (some ⟨b,0,none⟩) 4 4) 4 (bs.flatMap BX.cells)::dU bs))
theorem Xe {b:bO} {r:dx}:(dN b r).1.evs.length≤b.evs.length+1:=by
 have h:=sU (b:=b) (r:=r);unfold dN
 repeat' split
 all_goals first | exact h | simp [bD]
theorem afk (l:List Ac): ∀ u∈l.flatMap Ac.cells,u.oneCell'=true:=by
 intro u hu;rw [List.mem_flatMap] at hu;obtain ⟨z,_,hz⟩:=hu;simp [Ac.cells] at hz
 rcases hz with rfl | rfl | rfl | rfl | rfl | rfl | rfl | rfl | rfl | rfl | rfl<;>rfl
def afl (w:World) (l:List Ac) (e:Ending) (w':World):Prop:= ∃ A c,e= .returned (.slice A l.length c)∧St w.heap.size w w' [.bG 11 A l.length (l.flatMap Ac.cells)]
theorem Tk (A:Option Addr) (c:Nat) (l:List Ac) (w:World) (h:Rd w w.heap.size 11 A l.length (l.flatMap Ac.cells)) (hb:l.length*88≤reachBytes):
    Calls Tryz.prog 30 #[.slice A l.length c] w (afl w l):=by
 have S:=(St.start w).bH h;have hb2:=hb;unfold reachBytes at hb2;refine fE 5 Tryz.func30 ?_;refine cw [0] ?_;iterate 6 refine zQ ?_
 have S1:=S.nil 77 11;iterate 2 refine zQ ?_
 refine dB (news:=(l).flatMap Ac.cells) (xs':=(l).flatMap Ac.cells) 0 S1 (wn rfl) rfl rfl rfl rfl rfl rfl (St.rd 1 S1 rfl) Tryz.underlying26 ajD rfl (by decide) (afk _) (by simp only [maxLen];omega) (by omega) (by simp) ?_;intro A2 c3 w4 hc6 UY S5;iterate 5 refine zQ ?_
 have S8:=S5.aR [1];have S9:=S8.aZ 0 rfl;rw [Nat.zero_add] at S9;exact ⟨A2,c3,by rw [Nat.zero_add];rfl,S9⟩
instance:FH Ac where
 size:=11
 ints x:=x.ints
 of l:=⟨l.getD 0 0,l.getD 1 0,l.getD 2 0,l.getD 3 0,l.getD 4 0,l.getD 5 0,l.getD 6 0,l.getD 7 0,l.getD 8 0,l.getD 9 0,l.getD 10 0⟩
 pos:=by omega
 len _:=rfl
 inv xs h:=by
  obtain ⟨a1,xs,rfl⟩:=List.exists_cons_of_length_eq_add_one h;obtain ⟨a2,xs,rfl⟩:=List.exists_cons_of_length_eq_add_one (Nat.succ.inj h);have h:=Nat.succ.inj (Nat.succ.inj h);obtain ⟨a3,xs,rfl⟩:=List.exists_cons_of_length_eq_add_one h;obtain ⟨a4,xs,rfl⟩:=List.exists_cons_of_length_eq_add_one (Nat.succ.inj h);have h:=Nat.succ.inj (Nat.succ.inj h);obtain ⟨a5,xs,rfl⟩:=List.exists_cons_of_length_eq_add_one h;obtain ⟨a6,xs,rfl⟩:=List.exists_cons_of_length_eq_add_one (Nat.succ.inj h);have h:=Nat.succ.inj (Nat.succ.inj h);obtain ⟨a7,xs,rfl⟩:=List.exists_cons_of_length_eq_add_one h;obtain ⟨a8,xs,rfl⟩:=List.exists_cons_of_length_eq_add_one (Nat.succ.inj h);have h:=Nat.succ.inj (Nat.succ.inj h);obtain ⟨a9,xs,rfl⟩:=List.exists_cons_of_length_eq_add_one h;obtain ⟨a10,xs,rfl⟩:=List.exists_cons_of_length_eq_add_one (Nat.succ.inj h);have h:=Nat.succ.inj (Nat.succ.inj h);obtain ⟨a11,xs,rfl⟩:=List.exists_cons_of_length_eq_add_one h;obtain rfl:=List.eq_nil_of_length_eq_zero (Nat.succ.inj h);rfl
theorem abl:flat Tryz.prog 30 26=some [.sl 88 (List.replicate 11 (.int .i64))]:=by kernel_rfl
theorem abm {W:World} {v:Value} (h:QM Tryz.prog W v 26): ∃ A c,∃ l:List Ac,v= .slice A l.length c∧Rd W W.heap.size 11 A l.length (l.flatMap Ac.cells)∧l.length≤c∧c*88≤reachBytes:=by
 obtain ⟨⟨base,hk⟩,l,hl,ha⟩:=h;rw [abl] at hl
 cases hl;obtain ⟨A,n,c,rfl⟩:=okWide_slice Tryz.underlying26 hk;obtain ⟨a,l1,e,h1,_⟩:=dL.wT ha;simp [Value.cells] at e;obtain ⟨rfl,_⟩:=e;obtain ⟨A',n',c',l,e,hr,hn,hc,hb,h0⟩:=Vl (α:=Ac) h1;simp only [Value.slice.injEq] at e;obtain ⟨rfl,rfl,rfl⟩:=e;have hlen:l.length=n:=Rd.adA (α:=Ac) hr;subst hlen;exact ⟨A,c,l,rfl,hr,hn,hb⟩
end Go.Proofs.YtbffmhpkenoogaaGreatDoor
