import Derived.Test.YtlfgjcahpppbbaaGreatDoorGf6021
set_option maxRecDepth 100000
set_option maxHeartbeats 8000000
set_option linter.unusedSimpArgs false
set_option linter.unusedVariables false
namespace Go.Proofs.YtlfgjcahpppbbaaGreatDoor
open ChangeShapes WideShapes RowKit
theorem asE:fA 67 0 0:=fQ
theorem aee:iF 69 14:=kQ
theorem vX:fA 69 3 3:=fQ
theorem asF:fA 69 4 9:=fQ
theorem aEC:eN 5:=eQ
theorem aED:eN 10:=eQ
theorem aEE:eN 6:=eQ
theorem aEF:eN 7:=eQ
theorem aEG:eN 8:=eQ
theorem aEH:eN 11:=eQ
theorem aEI:eN 13:=eQ
section
variable {P:Program} {N:Nat} {l l':Slots} {w w' w0:World} {ops:Array Oper} {o:Oper} {rest:List Oper} {Q:Exit->Act->World->Prop} {d B:Nat} {v p:Value} {fs fs':List Fact} {ex:Exit}
section
theorem PO {c5 c10 c12:Code} {q8:Exit->Act->World->Prop} {o4:Operand} {i14:Nat} {aiN:List Oper} (h:wL P N aiN.toArray (Exit.then (c12.wp P (Exit.then (c10.wp P q8) q8)) (Exit.then (c10.wp P q8) q8)) aiN l w) (hc0:ev l o4=some (.bool false):=by exact rfl):wQ N (Exit.then ((Code.cond o4 c5 Code.skip).wp P (Exit.then ((Code.seq (Code.seq (Code.region i14 aiN.toArray false) c12) c10).wp P q8) q8)) (Exit.then ((Code.seq (Code.seq (Code.region i14 aiN.toArray false) c12) c10).wp P q8) q8)) .normal l w:=gF (kM hc0 (pQ (gF (aH (aH (ay h))))))
end
end
def AZ (l:List Ev) (e:Ev):Bool:=l.any λt=>decide (t.producer=e.producer/\t.id=e.id)
theorem adO {l:List Ev} {t e:Ev}:AZ (l++[t]) e=(AZ l e || decide (t.producer=e.producer/\t.id=e.id)):=by simp [AZ]
theorem ahQ {l:List Ev} {e:Ev}:AZ l e=true↔ ∃ t∈l,t.producer=e.producer/\t.id=e.id:=by simp [AZ]
def PS (st:Int×List Ev) (s:fD):Int×List Ev:=
 if s.ans.code≠0 then st else if s.op.kind=3 then (st.1-1,st.2) else if s.op.kind≠1 then st else if AZ st.2 s.op=true then st else (st.1+1,st.2++[s.op])
def Sw (l:List fD):Int×List Ev:=l.foldl PS (0,[])
structure KI (Q:Qd) (st:Int×List Ev):Prop where
 cnt:st.1=(Q.ready.length:Int)+Q.aA.length
 lo: ∀ p:Nat,p<4-> ∀ t∈st.2,t.producer=p->t.id< (Q.ws.at p).top/\((Q.ws.at p).top-8<=t.id->(Q.ws.at p).at (t.id-((Q.ws.at p).top-8)).toNat=true)
 hi: ∀ p:Nat,p<4-> ∀ k:Nat,k<8->(Q.ws.at p).at k=true-> ∃ t∈st.2,t.producer=p/\t.id=(Q.ws.at p).top-8+k
section
variable {Q y:Qd} {st:Int×List Ev} {s:fD} {e:Ev} {x:kK} {id:Int} {W:jO} {p k:Nat}
theorem afG (hp:p<4) (hk:k<4):(W.put k x).at p=if p=k then x else W.at p:=by
 have h1:p=0\/p=1\/p=2\/p=3:=oQ;have h2:k=0\/k=1\/k=2\/k=3:=oQ
 rcases h1 with rfl | rfl | rfl | rfl<;>rcases h2 with rfl | rfl | rfl | rfl<;>rfl
theorem PU {i:Nat} (hi:i<8):(xX x id).top=max x.top (id+1)/\((xX x id).at i=true↔(max x.top (id+1)-8+(i:Int)∈jm x.top x.at 8\/max x.top (id+1)-8+(i:Int)=id)):=by
 refine ⟨rfl,?_⟩;unfold xX;rw [Tt hi,KY _ _ _ hi,decide_eq_true_eq,List.mem_append,List.mem_singleton]
theorem IB: ∀ (ls:List Ls) (rs:List eH),(ls.foldl (λl x=>jM x.msg l) rs).length=rs.length+ls.length
 | [],rs=>rfl
 | x::ls,rs=>by
  rw [List.foldl_cons,IB ls,(wO x.msg rs).length_eq,List.length_cons,List.length_cons];omega
theorem KI.same (h:KI Q st) {Q':Qd} {n:Int} (hc:n=(Q'.ready.length:Int)+Q'.aA.length) (hw:Q'.ws=Q.ws):KI Q' (n,st.2):=⟨hc,by rw [hw];exact h.lo,by rw [hw];exact h.hi⟩
theorem amb (hf:Q.fault=0) {hn:Int} (h: ¬ (Q.aA.filter λx=>decide (x.hno≠hn)).length=Q.aA.length):(Q.aA.filter λx=>decide (x.hno≠hn)).length+1=Q.aA.length:=by
 have hp:=(WE (I8 hf).2.2.2.1).2;generalize Q.aA=ls at hp h;clear hf
 induction ls with
 | nil=>exact absurd rfl h
 | cons a r ih=>
  obtain ⟨h1,h2⟩:=List.pairwise_cons.1 hp;by_cases c:a.hno=hn
  ·have:r.filter (λx=>decide (x.hno≠hn))=r:=List.filter_eq_self.2 λx hx=>by
    have:=h1 x hx;simp only [ne_eq,decide_eq_true_eq];omega
   rw [List.filter_cons_of_neg (by simp [c]),this,List.length_cons]
  rw [List.filter_cons_of_pos (by simp [c])] at h⊢;rw [List.length_cons,List.length_cons] at h⊢;have:=ih h2 oQ;omega
theorem amc (h:KI Q st) (hf:Q.fault=0) (he:aX s.op=0) (ha:s.ans=(stepM Q s.op).2.1):KI (stepM Q s.op).1 (PS st s):=by
 have hkd:=Zv he;have hz: ∀ c:Int,(qU c).code=c:=λ_=>rfl;unfold PS;rw [ha];unfold stepM;by_cases k1:s.op.kind=1
 ·rw [if_pos k1];have hpr:0<=s.op.producer/\s.op.producer<=3:=by
   unfold aX at he;by_cases c:(jP s.op.producer 0 3&&jP s.op.id 0 1073741824&&jP s.op.body 0 1000000)=true
   ·simp only [Bool.and_eq_true] at c;have:=c.1.1;simpa [jP] using this
   rw [if_neg oQ,if_pos ⟨k1,c⟩] at he;cases he
  obtain ⟨P,hP⟩: ∃ P:Nat,s.op.producer.toNat=P:=⟨_,rfl⟩;have hP4:P<4:=oQ;have hPe:s.op.producer=P:=oQ;rw [hP];unfold AL;by_cases c1:(iD (Q.ws.at P) s.op.id).2.2≠0
  ·rw [if_pos c1];dsimp only;rw [hz,if_pos c1];exact h
  rw [if_neg c1];have c1':=Classical.not_not.1 c1;have hs0:(jW (Q.ws.at P) s.op.id).2=0:=by
   unfold iD at c1';by_cases c:(jW (Q.ws.at P) s.op.id).2≠0
   ·rw [if_pos c] at c1';exact absurd c1' c
   exact Classical.not_not.1 c
  have htk:iD (Q.ws.at P) s.op.id=if (jW (Q.ws.at P) s.op.id).1=true then (Q.ws.at P,false,0) else (xX (Q.ws.at P) s.op.id,true,0):=by
   unfold iD;rw [if_neg (λc=>c hs0)]
  obtain ⟨z1,z2,z3⟩:=BZ hs0;have hsm:(jW (Q.ws.at P) s.op.id).1=true↔ ¬ (Q.ws.at P).top<=s.op.id/\ ¬ s.op.id< (Q.ws.at P).top-8/\(Q.ws.at P).at (s.op.id-((Q.ws.at P).top-8)).toNat=true:=by
   unfold jW at hs0⊢;rw [if_neg (λc=>c z1),if_neg oQ] at hs0⊢;by_cases d1:(Q.ws.at P).top<=s.op.id
   ·rw [if_pos d1];simp [d1]
   rw [if_neg d1] at hs0⊢;by_cases d2:s.op.id< (Q.ws.at P).top-8
   ·rw [if_pos d2] at hs0;exact absurd hs0 dQ
   rw [if_neg d2];exact ⟨λh=>⟨d1,d2,h⟩,λh=>h.2.2⟩
  have hlow:(Q.ws.at P).top-8<=s.op.id:=by
   unfold jW at hs0;rw [if_neg (λc=>c z1),if_neg oQ] at hs0;by_cases d1:(Q.ws.at P).top<=s.op.id
   ·omega
   rw [if_neg d1] at hs0;by_cases d2:s.op.id< (Q.ws.at P).top-8
   ·rw [if_pos d2] at hs0;exact absurd hs0 dQ
   omega
  have hold:AZ st.2 s.op=true↔(jW (Q.ws.at P) s.op.id).1=true:=by
   rw [ahQ,hsm]
   constructor
   ·rintro ⟨t,t1,t2,t3⟩;obtain ⟨a1,a2⟩:=h.lo P hP4 t t1 (t2.trans hPe);rw [t3] at a1 a2;exact ⟨by omega,by omega,a2 hlow⟩
   rintro ⟨d1,d2,d3⟩;obtain ⟨t,t1,t2,t3⟩:=h.hi P hP4 _ oQ d3;exact ⟨t,t1,t2.trans hPe.symm,by omega⟩
  by_cases c2:(iD (Q.ws.at P) s.op.id).2.1=false
  ·rw [if_pos c2];have hs1:(jW (Q.ws.at P) s.op.id).1=true:=by
    by_cases c:(jW (Q.ws.at P) s.op.id).1=true
    ·exact c
    rw [htk,if_neg c] at c2;cases c2
   dsimp only;rw [if_neg (show ¬ eD.code≠0 from λc=>c rfl),if_neg oQ,if_neg oQ,if_pos (hold.2 hs1)];exact h
  rw [if_neg c2];have hs1: ¬ (jW (Q.ws.at P) s.op.id).1=true:=λc=>by rw [htk,if_pos c] at c2;exact c2 rfl
  by_cases c3:Q.ready.length+Q.aA.length=500\/Q.nx=1073741824
  ·rw [if_pos c3];dsimp only;rw [hz,if_pos dQ];exact h
  rw [if_neg c3];dsimp only;rw [if_neg (show ¬ eD.code≠0 from λc=>c rfl),if_neg oQ,if_neg oQ,if_neg (λc=>hs1 (hold.1 c)),htk,if_neg hs1];have hcnt:=h.cnt;refine ⟨?_,λp hp t ht htp=>?_,λp hp k hk hkb=>?_⟩
  ·dsimp only;rw [List.length_append,List.length_singleton];omega
  ·dsimp only at ht⊢;rw [afG hp hP4];by_cases e:p=P
   ·subst e;rw [if_pos rfl];obtain ⟨o1,_⟩:=PU (x:=Q.ws.at p) (id:=s.op.id) (i:=0) dQ;rw [o1]
    rcases List.mem_append.1 ht with ht | ht
    ·obtain ⟨a1,a2⟩:=h.lo p hP4 t ht htp;refine ⟨by omega,λhl=>?_⟩;have hi:(t.id-(max (Q.ws.at p).top (s.op.id+1)-8)).toNat<8:=oQ;refine ((PU hi).2).2 (.inl (P6.2 ⟨(t.id-((Q.ws.at p).top-8)).toNat,by omega,a2 oQ,by omega⟩))
    rw [List.mem_singleton] at ht;subst ht;refine ⟨by omega,λhl=>?_⟩;have hi:(s.op.id-(max (Q.ws.at p).top (s.op.id+1)-8)).toNat<8:=oQ;exact ((PU hi).2).2 (.inr oQ)
   rw [if_neg e]
   rcases List.mem_append.1 ht with ht | ht
   ·exact h.lo p hp t ht htp
   rw [List.mem_singleton] at ht;subst ht;omega
  dsimp only at hkb⊢;rw [afG hp hP4] at hkb⊢;by_cases e:p=P
  ·subst e;rw [if_pos rfl] at hkb⊢;obtain ⟨o1,o2⟩:=PU (x:=Q.ws.at p) (id:=s.op.id) hk;rw [o1]
   rcases o2.1 hkb with h1 | h1
   ·obtain ⟨i,i1,i2,i3⟩:=P6.1 h1;obtain ⟨t,t1,t2,t3⟩:=h.hi p hP4 i i1 i2;exact ⟨t,List.mem_append_left _ t1,t2,by omega⟩
   exact ⟨s.op,List.mem_append_right _ (List.mem_singleton.2 rfl),hPe,h1.symm⟩
  rw [if_neg e] at hkb⊢;obtain ⟨t,t1,t2,t3⟩:=h.hi p hp k hk hkb;exact ⟨t,List.mem_append_left _ t1,t2,t3⟩
 rw [if_neg k1];by_cases k2:s.op.kind=2
 ·rw [if_pos k2];have hst: ∀ c:Int,(if c≠0 then st else if s.op.kind=3 then (st.1-1,st.2) else if s.op.kind≠1 then st else if AZ st.2 s.op=true then st else (st.1+1,st.2++[s.op]))=st:=λc=>by
   rw [if_neg (by omega: ¬ s.op.kind=3),if_pos k1]
   split<;>rfl
  rw [hst];unfold EW
  split
  ·exact h
  rename_i m rest hr
  split
  ·exact h
  have hc:=h.cnt;rw [hr,List.length_cons] at hc;exact h.same (n:=st.1) (by dsimp only;rw [List.length_append,List.length_singleton];omega) rfl
 rw [if_neg k2];by_cases k3:s.op.kind=3
 ·rw [if_pos k3];unfold Dn;by_cases c1:s.op.aG≠Q.ep
  ·rw [if_pos c1];dsimp only;rw [hz,if_pos dQ];exact h
  rw [if_neg c1];by_cases c2:(Q.aA.filter λx=>decide (x.hno≠s.op.hno)).length=Q.aA.length
  ·rw [if_pos c2];dsimp only;rw [hz,if_pos dQ];exact h
  rw [if_neg c2];dsimp only;rw [if_neg (show ¬ eD.code≠0 from λc=>c rfl),if_pos k3];have:=amb hf c2;have hc:=h.cnt;exact h.same (n:=st.1-1) uQ rfl
 rw [if_neg k3];have hst: ∀ c:Int,(if c≠0 then st else if s.op.kind=3 then (st.1-1,st.2) else if s.op.kind≠1 then st else if AZ st.2 s.op=true then st else (st.1+1,st.2++[s.op]))=st:=λc=>by
  rw [if_neg k3,if_pos k1]
  split<;>rfl
 rw [hst];unfold Dp
 split
 ·exact h
 have hc:=h.cnt;exact h.same (n:=st.1) (by dsimp only;rw [IB,List.length_nil];omega) rfl
theorem afH: ∀ (l:List fD) {Q:Qd} {st:Int×List Ev},KI Q st->rp Q l=some y->KI y (l.foldl PS st)
 | [],Q,st,h,hr=>by
  obtain rfl:=Option.some.inj hr;exact h
 | s::l,Q,st,h,hr=>by
  rw [rp] at hr
  split at hr
  ·rename_i hc
   obtain ⟨f1,f2,f3⟩:=ZU hc.1;rw [f3] at hr hc;exact afH l (amc h f1 f2 hc.2.symm) hr
  cases hr
theorem kept {l:List fD} (h:rp bS l=some y):(Sw l).1=(y.ready.length:Int)+y.aA.length:=by
 refine (afH l (Q:=bS) (st:=(0,[])) ⟨rfl,λp hp t ht=>(by cases ht),λp hp k hk hkb=>?_⟩ h).cnt;have h1:bS.ws.at p=yI:=by
  have:p=0\/p=1\/p=2\/p=3:=oQ
  rcases this with rfl | rfl | rfl | rfl<;>rfl
 rw [h1] at hkb;have:k=0\/k=1\/k=2\/k=3\/k=4\/k=5\/k=6\/k=7:=oQ
 rcases this with rfl | rfl | rfl | rfl | rfl | rfl | rfl | rfl<;>cases hkb
end
theorem ahR (w:World):(Instr.makeSlice 55 (.int .i64 0) (.int .i64 0)).run Tryz.prog w= .ok (.slice (some ⟨w.heap.size,0,none⟩) 0 0) (w.alloc (.cells (([]:List Ev).flatMap Ev.cells).toArray 65)):=by
 obtain ⟨i0,hi0,hz0,hz1,hz2⟩:=info_parts (P:=Tryz.prog) (e:=65) (z:= .agg #[.int .i64 0,.int .i64 0,.int .i64 0,.int .i64 0,.int .i64 0,.int .i64 0]) (size:=6) (bytes:=48) kQ;have:=run_makeSlice (P:=Tryz.prog) w 55 65 i0 _ Tryz.underlying55 hi0 hz0 .i64 .i64 0 0 oQ oQ (by rw [hz1];decide) (by rw [hz2];omega) oQ;rw [this,hz1];rw [show madeCells (Value.agg #[.int .i64 0,.int .i64 0,.int .i64 0,.int .i64 0,.int .i64 0,.int .i64 0]).cells ((0:Int).toNat*6)=(([]:List Ev).flatMap Ev.cells).toArray from by kernel_rfl];rfl
section
variable {l:List Ev} {sv:List fD} {k i:Nat} {z e:Ev} {s:fD} {st:Int×List Ev}
theorem pF (h:l[k]? =some z):AZ (l.take (k+1)) e=(AZ (l.take k) e || decide (z.producer=e.producer/\z.id=e.id)):=by
 rw [List.take_add_one,h];exact adO
theorem yH (h:sv[i]? =some s):Sw (sv.take (i+1))=PS (Sw (sv.take i)) s:=by
 unfold Sw;rw [List.take_add_one,h,List.foldl_append];rfl
theorem ax1 (h: ¬ s.ans.code=0):PS st s=st:=if_pos h
theorem ax2 (h:s.ans.code=0) (h1:s.op.kind=3):PS st s=(st.1-1,st.2):=by unfold PS;rw [if_neg (λc=>c h),if_pos h1]
theorem ax3 (h:s.ans.code=0) (h1: ¬ s.op.kind=3) (h2: ¬ s.op.kind=1):PS st s=st:=by unfold PS;rw [if_neg (λc=>c h),if_neg h1,if_pos h2]
theorem ax4 (h:s.ans.code=0) (h1: ¬ s.op.kind=3) (h2:s.op.kind=1) (h3:AZ st.2 s.op=true):PS st s=st:=by unfold PS;rw [if_neg (λc=>c h),if_neg h1,if_neg (λc=>c h2),if_pos h3]
theorem ax5 (h:s.ans.code=0) (h1: ¬ s.op.kind=3) (h2:s.op.kind=1) (h3:AZ st.2 s.op=false):PS st s=(st.1+1,st.2++[s.op]):=by unfold PS;rw [if_neg (λc=>c h),if_neg h1,if_neg (λc=>c h2),if_neg (by rw [h3];simp)]
end
theorem YT {gs:List Gr} {s F:List Ac} {A:Option Addr} {c:Nat} {w:World} (hs:s=cK gs 120 true) (hF:F=kE s (wu s)) (hen:wu s<=100000) (hg: ∀ g∈gs,g.ok) (h0: ∀ a∈F,bY a=0) (hsl:s.length<=1000) (hFl:F.length<=100000) (aiM:(mD.run F).aQ.length<=1000000000) (hu:Uk w.heap.size w) (h:Rd w w.heap.size 5 A gs.length (gs.flatMap Gr.cells)) (hst: ∀ q,q<2-> ∃ o Y an,wm (mD.run F) q o/\(Sw (vI q (mD.run F).aQ)).1=(Y.ready.length:Int)+Y.aA.length/\av (((mD.run F).ah o).view q).evs=(Y,an,0)/\(((mD.run F).ah o).view q).evs.length<=2000/\Y.ready.length+Y.aA.length<=501):
    Calls Tryz.prog 4 #[.slice A gs.length c] w (λe w'=>e= .returned (.bool true)/\Below w.heap.size w w'):=by
 have S:=(St.start w).bL h;refine gu 138 Tryz.func4 ?_;refine cw [0] ?_;refine zN 8 ?_;refine dF aEC (Ul (m:=120) hs (by decide) hg _ ((St.rd 0 S rfl))) ?_;rintro _ w3 ⟨A1,c2,rfl,T5⟩;refine ⟨_,rfl,?_⟩;have S4:=S.ext T5 rfl;refine zN 7 ?_;refine cab aEG S4 (Gi hsl _ (St.ord 0 S4 rfl)) ?_;intro w6 S7;refine dF aEF (afC (r:=wu s) hF hen (by omega) _ ((St.ord 0 S7 rfl))) ?_;rintro _ GI ⟨A9,c10,rfl,T13⟩;refine ⟨_,rfl,?_⟩;have l5:=S7.ext T13 rfl;refine dF aEE (anG h0 hFl l5 hu (Ro.own (List.mem_of_getElem? (i:=0) rfl))) ?_;rintro _ JO ⟨x,Wu,rfl,apn,iG⟩;refine ⟨_,rfl,?_⟩;have hX:=apn;have yT: ∀ f∈Wu,f∈(Wu++[.own 71 11 (.slice A9 F.length c10) F.length ((F).flatMap Ac.cells),.own 71 11 (.slice A1 s.length c2) s.length ((s).flatMap Ac.cells),.rd 5 A gs.length ((gs).flatMap Gr.cells)]):=λf h=>List.mem_append_left _ h;refine zN 3 ?_;refine jC (V:=λb=> .pointer (some ⟨b,0,none⟩)) (row:= #[.int .i64 0,.bool false,.bool false,.bool false,.bool false,.bool false,.int .i64 0,.int .i64 0,.int .i64 0,.int .i64 0,.int .i64 0,.int .i64 0,.int .i64 0,.int .i64 0,.slice none 0 0,.slice none 0 0,.slice none 0 0,.int .i64 0]) (t:=35) iG (wn rfl) rfl rfl (dO rfl (Tryz.zeroValue35 _) rfl) ?_;intro b18 FX mM;refine stA 0 mM amm ?_;intro DW iX;refine zN 10 ?_;refine dN (X:=Nat) (λxv=>[(2,.bool false),(4,.pointer (some ⟨b18,0,none⟩)),(5,.bool true),(6,.int .i64 ((xv:Nat):Int))]) (λxv wr=>(xv<=2)/\St w.heap.size w wr ((.blk b18 #[.int .i64 ((x.fl:Nat):Int),.bool (x.U 0),.bool (x.U 1),.bool (x.U 2),.bool (x.U 3),.bool (x.U 4),.int .i64 x.d.p0.node,.int .i64 x.d.p0.epoch,.int .i64 x.d.p1.node,.int .i64 x.d.p1.epoch,.int .i64 x.d.p2.node,.int .i64 x.d.p2.epoch,.int .i64 x.d.p3.node,.int .i64 x.d.p3.epoch,.slice x.BA 5 x.bc,.slice x.sA x.sn x.sc,.slice x.tA x.tn x.tc,.int .i64 ((x.calls:Nat):Int)] 35)::(Wu++[.own 71 11 (.slice A9 F.length c10) F.length ((F).flatMap Ac.cells),.own 71 11 (.slice A1 s.length c2) s.length ((s).flatMap Ac.cells),.rd 5 A gs.length ((gs).flatMap Gr.cells)]))) (λxv=>2-xv) (0) ?_ ?_ ?_
 ·exact ⟨Nat.zero_le _,iX⟩
 ·exact ⟨rfl,rfl,rfl,rfl,trivial⟩
 rintro q H9 ⟨acF,iP⟩
 try dsimp only at acF iP
 refine aZ (l':=[(2,.bool false),(4,.pointer (some ⟨b18,0,none⟩)),(5,.bool true),(6,.int .i64 ((q:Nat):Int))]) ⟨rfl,rfl,rfl,rfl,trivial⟩ (aH (aH (ay (vm ?_))));by_cases h26:((q:Nat):Int)<2
 ·refine zN 12 ?_;obtain ⟨o,Y,an,hA,hkp,htl,hel,hyq⟩:=hst q (by omega);have ho5:=hA.lt;obtain ⟨ps,hpl,Nb,hp1⟩:=hX.ps;obtain ⟨bA,oA,hBa⟩:=yO Nb iP (memT 1 rfl yT) (by decide);obtain ⟨p,hp⟩: ∃ p,ps[o]? =some p:=⟨_,List.getElem?_eq_getElem (by omega)⟩;have hpp:=hp1 _ _ hp;obtain ⟨y,hy,hyb⟩:=RO hpp (q:=q) (by omega);rw [<-hyb] at htl hel;refine zN 3 ?_;refine dF aED (AA (by omega) hA iP hX (memT 1 rfl yT)) ?_;rintro _ MW ⟨rfl,qy⟩;refine ⟨_,rfl,?_⟩;refine zN 26 ?_;refine vv (v:= .pointer (some ⟨bA,oA+o*1,none⟩)) (aR rfl rfl rfl (gB o hBa Tryz.underlying31 amo rfl (by omega))) ?_;refine vv (v:= .slice (some ⟨p.1,0,none⟩) 4 4) (aj rfl rfl (qw Tryz.underlying58 rfl (jw Nb hBa qy (memT 1 rfl yT) (aW (enc:=iB) (sz:=1) (k:=o) (j:=0) (λ_=>rfl) hp rfl)))) ?_;refine zQ ?_;refine vv (jf q) ?_;refine zQ ?_;refine vv (v:= .slice y.A y.b.evs.length y.c) (aj rfl rfl (qw Tryz.underlying55 rfl (by rw [Nat.add_assoc];exact jw hpp.rd rfl qy (memT 1 rfl yT) (aW (enc:=BX.cells) (sz:=6) (k:=q) (j:=5) (λ_=>rfl) hy rfl)))) ?_;refine dF aEH (PK htl (by omega) ((hpp.bo y (List.mem_of_getElem? hy)).1.rd qy (memT 1 rfl yT))) ?_;rintro _ ZA ⟨Lg,QZ,A31,c32,rfl,T35⟩;refine ⟨_,rfl,?_⟩;have qo:=qy.ext T35 rfl;change St _ _ _ ((.bJ 2 Lg Y.ready.length ((Y.ready).flatMap eH.cells))::(.bJ 4 A31 Y.aA.length ((Y.aA).flatMap Ls.cells))::_::(Wu++[.own 71 11 (.slice A9 F.length c10) F.length ((F).flatMap Ac.cells),.own 71 11 (.slice A1 s.length c2) s.length ((s).flatMap Ac.cells),.rd 5 A gs.length ((gs).flatMap Gr.cells)])) at qo;refine zN 3 ?_;refine jC (V:=λb=> .pointer (some ⟨b,0,none⟩)) (row:=bI 0 0 0 (.slice none 0 0) (.slice none 0 0) fF) (t:=47) qo (wn rfl) rfl rfl (dO rfl (Tryz.zeroValue47 _) rfl) ?_;intro qK Te qJ;refine stA 0 qJ amr ?_ (h1:=by exact xG rfl rfl);intro w39 rY;refine zN 22 ?_;obtain ⟨sv,hsv⟩: ∃ l,vI q (mD.run F).aQ=l:=⟨_,rfl⟩;refine dF aEI (anF hsv (hX.aQ.rd rY (memT 4 rfl yT)) (by rw [hX.sn];exact aiM)) ?_;rintro _ w43 ⟨ZJ,Rb,rfl,T45⟩;refine ⟨_,rfl,?_⟩;have Dc:=rY.ext T45 rfl;change St _ _ _ ((.own 69 14 (.slice ZJ sv.length Rb) sv.length ((sv).flatMap fD.cells))::_::_::_::_::(Wu++[.own 71 11 (.slice A9 F.length c10) F.length ((F).flatMap Ac.cells),.own 71 11 (.slice A1 s.length c2) s.length ((s).flatMap Ac.cells),.rd 5 A gs.length ((gs).flatMap Gr.cells)])) at Dc;refine zN 5 ?_;refine oM (V:=λb=> .slice (some ⟨b,0,none⟩) 0 0) (row:=(([]:List Ev).flatMap Ev.cells).toArray) (t:=65) (n:=0) (s:=6) (xs:=([]:List Ev).flatMap Ev.cells) Dc (wn rfl) rfl rfl (BQ rfl rfl rfl (ahR _)) rfl (by decide) rfl ?_;intro b46 w47 vO;refine zN 10 ?_;rw [hsv] at hkp;have hsn:sv.length<=1000000000:=by rw [<-hsv];exact Nat.le_trans (List.length_filter_le _ _) aiM
  refine dN (X:=Nat×Int×Nat×(Option Addr)×Nat×(List Ev)) (λxv=>[(2,.bool false),(4,.pointer (some ⟨b18,0,none⟩)),(5,.bool true),(6,.int .i64 ((q:Nat):Int)),(9,.pointer (some ⟨qK,0,none⟩)),(12,.slice ZJ sv.length Rb),(11,.int .i64 xv.2.1),(13,.slice xv.2.2.2.1 xv.2.2.1 xv.2.2.2.2.1),(14,.int .i64 ((xv.1:Nat):Int))]) (λxv wr=>(xv.1<=sv.length)/\((xv.2.1,xv.2.2.2.2.2)=Sw (sv.take xv.1))/\(xv.2.2.1<=xv.1)/\(-(xv.1:Int)<=xv.2.1)/\(xv.2.1<=xv.1)/\St w.heap.size w wr ((.own 65 6 (.slice xv.2.2.2.1 xv.2.2.1 xv.2.2.2.2.1) xv.2.2.1 ((xv.2.2.2.2.2).flatMap Ev.cells))::(.own 69 14 (.slice ZJ sv.length Rb) sv.length ((sv).flatMap fD.cells))::(.blk qK (bI Y.ep Y.nx Y.gv (.slice Lg Y.ready.length QZ) (.slice A31 Y.aA.length c32) Y.ws) 47)::(.bJ 2 Lg Y.ready.length ((Y.ready).flatMap eH.cells))::(.bJ 4 A31 Y.aA.length ((Y.aA).flatMap Ls.cells))::(.blk b18 #[.int .i64 ((x.fl:Nat):Int),.bool (x.U 0),.bool (x.U 1),.bool (x.U 2),.bool (x.U 3),.bool (x.U 4),.int .i64 x.d.p0.node,.int .i64 x.d.p0.epoch,.int .i64 x.d.p1.node,.int .i64 x.d.p1.epoch,.int .i64 x.d.p2.node,.int .i64 x.d.p2.epoch,.int .i64 x.d.p3.node,.int .i64 x.d.p3.epoch,.slice x.BA 5 x.bc,.slice x.sA x.sn x.sc,.slice x.tA x.tn x.tc,.int .i64 ((x.calls:Nat):Int)] 35)::(Wu++[.own 71 11 (.slice A9 F.length c10) F.length ((F).flatMap Ac.cells),.own 71 11 (.slice A1 s.length c2) s.length ((s).flatMap Ac.cells),.rd 5 A gs.length ((gs).flatMap Gr.cells)]))) (λxv=>sv.length-xv.1) (0,0,0,(some ⟨b46,0,none⟩),0,[]) ?_ ?_ ?_
  ·exact ⟨Nat.zero_le _,rfl,Nat.le_refl _,(by dsimp only;omega),(by dsimp only;omega),vO⟩
  ·exact ⟨rfl,rfl,rfl,rfl,rfl,rfl,rfl,rfl,rfl,trivial⟩
  rintro ⟨i,m,nb,Ab,cb,sl⟩ VP ⟨aEJ,Sy,aEK,aEL,Jm,oU⟩
  try dsimp only at aEJ Sy aEK aEL Jm oU
  refine aZ (l':=[(2,.bool false),(4,.pointer (some ⟨b18,0,none⟩)),(5,.bool true),(6,.int .i64 ((q:Nat):Int)),(9,.pointer (some ⟨qK,0,none⟩)),(12,.slice ZJ sv.length Rb),(11,.int .i64 m),(13,.slice Ab nb cb),(14,.int .i64 ((i:Nat):Int))]) ⟨rfl,rfl,rfl,rfl,rfl,rfl,rfl,rfl,rfl,trivial⟩ (aH (aH (ay (vm ?_))));refine zN 2 ?_;by_cases h56:((i:Nat):Int)< ((sv.length:Nat):Int)
  ·refine zN 12 ?_;obtain ⟨b57,o58,rfl⟩:=Rd.addr (St.ord 1 oU rfl) (by omega);obtain ⟨oq,Jo⟩:=DT i (St.ord 1 oU rfl) (by omega);refine vv (v:= .pointer (some ⟨b57,o58+i*14,none⟩)) (aR rfl rfl rfl (lF i Tryz.underlying32 aee (by omega) (by omega))) ?_;refine vv (aj rfl rfl (yV (cs:=fD.cells oq) Tryz.underlying69 rfl aee rfl (Rd.uq (St.ord 1 oU rfl) (λ_ _ h=>aW (enc:=fD.cells) (sz:=14) (λ_=>rfl) Jo h)))) ?_;refine jC (V:=λb=> .pointer (some ⟨b,0,none⟩)) (row:= #[.int .i64 0,.int .i64 0,.int .i64 0,.int .i64 0,.int .i64 0,.int .i64 0,.int .i64 0,.int .i64 0,.int .i64 0,.int .i64 0,.int .i64 0,.int .i64 0,.int .i64 0,.int .i64 0]) (t:=69) oU (wn rfl) rfl rfl (dO rfl (Tryz.zeroValue69 _) rfl) ?_;intro JM VQ vP;refine stA 0 vP aee ?_;intro ZK Bd;refine zQ ?_;refine JH (vv (oG 9 asF) ?_);refine vv (oG 9 asE) ?_;refine vv (aj rfl rfl (qw Tryz.underlying52 rfl (St.cl 0 Bd rfl rfl))) ?_;by_cases h66:oq.ans.code=0
   ·refine zN 2 ?_;refine PO (vv (oG 3 vX) ?_);refine zN 2 ?_;by_cases yu:oq.op.kind=3
    ·refine zN 6 ?_;refine vv (v:= .int .i64 (m-1)) ysu ?_;refine zN 2 ?_;refine JH (vv (oG 3 vX) ?_);refine zN 12 ?_;refine vv (v:= .int .i64 ((i+1:Nat):Int)) fJ ?_;refine zN 2 ?_;have Bc:=Bd.aP [0];refine aM (i+1,m-1,nb,Ab,cb,sl) ?_ ⟨rfl,rfl,rfl,rfl,rfl,rfl,rfl,rfl,rfl,trivial⟩ (by first | omega | (dsimp only;omega));exact ⟨(by dsimp only;omega),(by dsimp only;rw [yH Jo,<-Sy,ax2 h66 yu]),(by dsimp only;omega),(by dsimp only;omega),(by dsimp only;omega),Bc⟩
    refine zN 2 ?_;refine PO (vv (oG 3 vX) ?_);refine zN 2 ?_;by_cases h69:oq.op.kind=1
    ·refine zN 18 ?_;refine dN (X:=Nat×Bool) (λxv=>[(2,.bool false),(4,.pointer (some ⟨b18,0,none⟩)),(5,.bool true),(6,.int .i64 ((q:Nat):Int)),(9,.pointer (some ⟨qK,0,none⟩)),(12,.slice (some ⟨b57,o58,none⟩) sv.length Rb),(11,.int .i64 m),(13,.slice Ab nb cb),(14,.int .i64 ((i:Nat):Int)),(15,.pointer (some ⟨JM,0,none⟩)),(16,.bool xv.2),(17,.int .i64 ((xv.1:Nat):Int))]) (λxv wr=>(xv.1<=nb)/\(xv.2=AZ (sl.take xv.1) oq.op)/\St w.heap.size w wr ((.blk JM #[.int .i64 ((oq.nd:Nat):Int),.int .i64 ((oq.q:Nat):Int),.int .i64 oq.ep,.int .i64 oq.op.kind,.int .i64 oq.op.producer,.int .i64 oq.op.id,.int .i64 oq.op.body,.int .i64 oq.op.aG,.int .i64 oq.op.hno,.int .i64 oq.ans.code,.int .i64 oq.ans.eF,.int .i64 oq.ans.hno,.int .i64 oq.ans.body,.int .i64 oq.num] 69)::(.own 65 6 (.slice Ab nb cb) nb ((sl).flatMap Ev.cells))::(.own 69 14 (.slice (some ⟨b57,o58,none⟩) sv.length Rb) sv.length ((sv).flatMap fD.cells))::(.blk qK (bI Y.ep Y.nx Y.gv (.slice Lg Y.ready.length QZ) (.slice A31 Y.aA.length c32) Y.ws) 47)::(.bJ 2 Lg Y.ready.length ((Y.ready).flatMap eH.cells))::(.bJ 4 A31 Y.aA.length ((Y.aA).flatMap Ls.cells))::(.blk b18 #[.int .i64 ((x.fl:Nat):Int),.bool (x.U 0),.bool (x.U 1),.bool (x.U 2),.bool (x.U 3),.bool (x.U 4),.int .i64 x.d.p0.node,.int .i64 x.d.p0.epoch,.int .i64 x.d.p1.node,.int .i64 x.d.p1.epoch,.int .i64 x.d.p2.node,.int .i64 x.d.p2.epoch,.int .i64 x.d.p3.node,.int .i64 x.d.p3.epoch,.slice x.BA 5 x.bc,.slice x.sA x.sn x.sc,.slice x.tA x.tn x.tc,.int .i64 ((x.calls:Nat):Int)] 35)::(Wu++[.own 71 11 (.slice A9 F.length c10) F.length ((F).flatMap Ac.cells),.own 71 11 (.slice A1 s.length c2) s.length ((s).flatMap Ac.cells),.rd 5 A gs.length ((gs).flatMap Gr.cells)]))) (λxv=>nb-xv.1) (0,false) ?_ ?_ ?_
     ·exact ⟨Nat.zero_le _,rfl,Bd⟩
     ·exact ⟨rfl,rfl,rfl,rfl,rfl,rfl,rfl,rfl,rfl,rfl,rfl,rfl,trivial⟩
     rintro ⟨k,bo⟩ Zz ⟨aEM,JE,lu⟩
     try dsimp only at aEM JE lu
     refine aZ (l':=[(2,.bool false),(4,.pointer (some ⟨b18,0,none⟩)),(5,.bool true),(6,.int .i64 ((q:Nat):Int)),(9,.pointer (some ⟨qK,0,none⟩)),(12,.slice (some ⟨b57,o58,none⟩) sv.length Rb),(11,.int .i64 m),(13,.slice Ab nb cb),(14,.int .i64 ((i:Nat):Int)),(15,.pointer (some ⟨JM,0,none⟩)),(16,.bool bo),(17,.int .i64 ((k:Nat):Int))]) ⟨rfl,rfl,rfl,rfl,rfl,rfl,rfl,rfl,rfl,rfl,rfl,rfl,trivial⟩ (aH (aH (ay (vm ?_))));refine zN 2 ?_;by_cases h74:((k:Nat):Int)< ((nb:Nat):Int)
     ·refine zN 8 ?_;obtain ⟨x75,CW⟩:=DT k (St.ord 1 lu rfl) (by omega);by_cases hp1:x75.producer=oq.op.producer
      ·by_cases hp2:x75.id=oq.op.id
       ·cases bo
        ·refine bV lu mixed (by kernel_rfl) ?_;refine zN 4 ?_;obtain ⟨b81,o82,rfl⟩:=Rd.addr (St.ord 1 lu rfl) (by omega);refine ug (λ_ _=>jf k) ?_;refine zQ ?_;refine ug (v:= .int .i64 x75.producer) (λ_ aEN=>(aj rfl rfl (qw Tryz.underlying3 rfl (Rd.KU (i:=1) (St.ord 1 aEN rfl) (aW (enc:=Ev.cells) (sz:=6) (λ_=>rfl) CW rfl))))) ?_;refine ug (v:= .pointer (some ⟨JM,3,none⟩)) (λ_ _=>oG _ vX) ?_;refine zN 6 ?_;refine ug (λ_ _=>jf k) ?_;refine zQ ?_;refine ug (v:= .int .i64 x75.id) (λ_ aEO=>(aj rfl rfl (qw Tryz.underlying3 rfl (Rd.KU (i:=2) (St.ord 1 aEO rfl) (aW (enc:=Ev.cells) (sz:=6) (λ_=>rfl) CW rfl))))) ?_;refine ug (v:= .pointer (some ⟨JM,3,none⟩)) (λ_ _=>oG _ vX) ?_;refine zN 6 ?_;refine dh λau0 wS=>?_;refine zN 4 ?_;refine vv (v:= .int .i64 ((k+1:Nat):Int)) fJ ?_;refine zN 2 ?_;refine aM (k+1,true) ?_ ⟨rfl,rfl,rfl,rfl,rfl,rfl,rfl,rfl,rfl,rfl,rfl,rfl,trivial⟩ (by first | omega | (dsimp only;omega));exact ⟨(by dsimp only;omega),(by dsimp only;rw [pF CW,<-JE];simp [hp1,hp2]),wS⟩
        refine bV lu mixed (by kernel_rfl) ?_;refine zN 24 ?_;refine dh λWH qb=>?_;refine zN 4 ?_;refine vv (v:= .int .i64 ((k+1:Nat):Int)) fJ ?_;refine zN 2 ?_;refine aM (k+1,true) ?_ ⟨rfl,rfl,rfl,rfl,rfl,rfl,rfl,rfl,rfl,rfl,rfl,rfl,trivial⟩ (by first | omega | (dsimp only;omega));exact ⟨(by dsimp only;omega),(by dsimp only;rw [pF CW,<-JE];simp [hp1,hp2]),qb⟩
       cases bo
       ·refine bV lu mixed (by kernel_rfl) ?_;refine zN 4 ?_;obtain ⟨aLE,aLF,rfl⟩:=Rd.addr (St.ord 1 lu rfl) (by omega);refine ug (λ_ _=>jf k) ?_;refine zQ ?_;refine ug (v:= .int .i64 x75.producer) (λ_ ax6=>(aj rfl rfl (qw Tryz.underlying3 rfl (Rd.KU (i:=1) (St.ord 1 ax6 rfl) (aW (enc:=Ev.cells) (sz:=6) (λ_=>rfl) CW rfl))))) ?_;refine ug (v:= .pointer (some ⟨JM,3,none⟩)) (λ_ _=>oG _ vX) ?_;refine zN 6 ?_;refine ug (λ_ _=>jf k) ?_;refine zQ ?_;refine ug (v:= .int .i64 x75.id) (λ_ ax7=>(aj rfl rfl (qw Tryz.underlying3 rfl (Rd.KU (i:=2) (St.ord 1 ax7 rfl) (aW (enc:=Ev.cells) (sz:=6) (λ_=>rfl) CW rfl))))) ?_;refine ug (v:= .pointer (some ⟨JM,3,none⟩)) (λ_ _=>oG _ vX) ?_;refine zN 6 ?_;refine dh λaa2 zi=>?_;refine zN 4 ?_;refine vv (v:= .int .i64 ((k+1:Nat):Int)) fJ ?_;refine zN 2 ?_;refine aM (k+1,false) ?_ ⟨rfl,rfl,rfl,rfl,rfl,rfl,rfl,rfl,rfl,rfl,rfl,rfl,trivial⟩ (by first | omega | (dsimp only;omega));exact ⟨(by dsimp only;omega),(by dsimp only;rw [pF CW,<-JE];simp [hp1,hp2]),zi⟩
       refine bV lu mixed (by kernel_rfl) ?_;refine zN 24 ?_;refine dh λaou Fp=>?_;refine zN 4 ?_;refine vv (v:= .int .i64 ((k+1:Nat):Int)) fJ ?_;refine zN 2 ?_;refine aM (k+1,true) ?_ ⟨rfl,rfl,rfl,rfl,rfl,rfl,rfl,rfl,rfl,rfl,rfl,rfl,trivial⟩ (by first | omega | (dsimp only;omega));exact ⟨(by dsimp only;omega),(by dsimp only;rw [pF CW,<-JE];simp [hp1,hp2]),Fp⟩
      by_cases hp2:x75.id=oq.op.id
      ·cases bo
       ·refine bV lu mixed (by kernel_rfl) ?_;refine zN 4 ?_;obtain ⟨aLG,aLH,rfl⟩:=Rd.addr (St.ord 1 lu rfl) (by omega);refine ug (λ_ _=>jf k) ?_;refine zQ ?_;refine ug (v:= .int .i64 x75.producer) (λ_ ax8=>(aj rfl rfl (qw Tryz.underlying3 rfl (Rd.KU (i:=1) (St.ord 1 ax8 rfl) (aW (enc:=Ev.cells) (sz:=6) (λ_=>rfl) CW rfl))))) ?_;refine ug (v:= .pointer (some ⟨JM,3,none⟩)) (λ_ _=>oG _ vX) ?_;refine zN 16 ?_;refine dh λaA4 abR=>?_;refine zN 4 ?_;refine vv (v:= .int .i64 ((k+1:Nat):Int)) fJ ?_;refine zN 2 ?_;refine aM (k+1,false) ?_ ⟨rfl,rfl,rfl,rfl,rfl,rfl,rfl,rfl,rfl,rfl,rfl,rfl,trivial⟩ (by first | omega | (dsimp only;omega));exact ⟨(by dsimp only;omega),(by dsimp only;rw [pF CW,<-JE];simp [hp1,hp2]),abR⟩
       refine bV lu mixed (by kernel_rfl) ?_;refine zN 24 ?_;refine dh λah5 GQ=>?_;refine zN 4 ?_;refine vv (v:= .int .i64 ((k+1:Nat):Int)) fJ ?_;refine zN 2 ?_;refine aM (k+1,true) ?_ ⟨rfl,rfl,rfl,rfl,rfl,rfl,rfl,rfl,rfl,rfl,rfl,rfl,trivial⟩ (by first | omega | (dsimp only;omega));exact ⟨(by dsimp only;omega),(by dsimp only;rw [pF CW,<-JE];simp [hp1,hp2]),GQ⟩
      cases bo
      ·refine bV lu mixed (by kernel_rfl) ?_;refine zN 4 ?_;obtain ⟨aLI,aLJ,rfl⟩:=Rd.addr (St.ord 1 lu rfl) (by omega);refine ug (λ_ _=>jf k) ?_;refine zQ ?_;refine ug (v:= .int .i64 x75.producer) (λ_ ax9=>(aj rfl rfl (qw Tryz.underlying3 rfl (Rd.KU (i:=1) (St.ord 1 ax9 rfl) (aW (enc:=Ev.cells) (sz:=6) (λ_=>rfl) CW rfl))))) ?_;refine ug (v:= .pointer (some ⟨JM,3,none⟩)) (λ_ _=>oG _ vX) ?_;refine zN 16 ?_;refine dh λaDd abT=>?_;refine zN 4 ?_;refine vv (v:= .int .i64 ((k+1:Nat):Int)) fJ ?_;refine zN 2 ?_;refine aM (k+1,false) ?_ ⟨rfl,rfl,rfl,rfl,rfl,rfl,rfl,rfl,rfl,rfl,rfl,rfl,trivial⟩ (by first | omega | (dsimp only;omega));exact ⟨(by dsimp only;omega),(by dsimp only;rw [pF CW,<-JE];simp [hp1,hp2]),abT⟩
      refine bV lu mixed (by kernel_rfl) ?_;refine zN 24 ?_;refine dh λauK Mk=>?_;refine zN 4 ?_;refine vv (v:= .int .i64 ((k+1:Nat):Int)) fJ ?_;refine zN 2 ?_;refine aM (k+1,true) ?_ ⟨rfl,rfl,rfl,rfl,rfl,rfl,rfl,rfl,rfl,rfl,rfl,rfl,trivial⟩ (by first | omega | (dsimp only;omega));exact ⟨(by dsimp only;omega),(by dsimp only;rw [pF CW,<-JE];simp [hp1,hp2]),Mk⟩
     refine zN 10 ?_;have hko:AZ sl oq.op=bo:=by have hl:=(lu.own 1 rfl).1;rw [gL (sz:=6) (λ_=>rfl)] at hl;rw [JE,List.take_of_length_le (by omega)]
     cases bo
     ·refine zN 9 ?_;refine vv (v:= .int .i64 (m+1)) fJ ?_;refine zN 5 ?_;refine vv (oG 3 vX) ?_;refine vv (aj rfl rfl (yV (cs:=[.int .i64 oq.op.kind,.int .i64 oq.op.producer,.int .i64 oq.op.id,.int .i64 oq.op.body,.int .i64 oq.op.aG,.int .i64 oq.op.hno]) Tryz.underlying65 rfl zH rfl (St.rg 0 lu rfl (mU (x:=3) (m:=6) rfl)))) ?_;refine NY lu ?_;intro aLK aLL avJ;refine dx (news:=[.int .i64 oq.op.kind,.int .i64 oq.op.producer,.int .i64 oq.op.id,.int .i64 oq.op.body,.int .i64 oq.op.aG,.int .i64 oq.op.hno]) (xs':=(sl++[oq.op]).flatMap Ev.cells) 2 avJ (wn rfl) rfl rfl rfl rfl rfl rfl (St.lD (xs:=[.int .i64 oq.op.kind,.int .i64 oq.op.producer,.int .i64 oq.op.id,.int .i64 oq.op.body,.int .i64 oq.op.aG,.int .i64 oq.op.hno]) 0 avJ rfl rfl rfl) Tryz.underlying55 oO rfl (by decide) (bM rfl) (by simp only [maxLen];omega) (by omega) (iU (enc:=Ev.cells) rfl rfl) ?_;intro aEP aEQ aLM aGL aGM aER;refine zN 6 ?_;refine vv (v:= .int .i64 ((i+1:Nat):Int)) fJ ?_;refine zN 2 ?_;have aES:=aER.aP [1,0];refine aM (i+1,m+1,nb+1,aEP,aEQ,sl++[oq.op]) ?_ ⟨rfl,rfl,rfl,rfl,rfl,rfl,rfl,rfl,rfl,trivial⟩ (by first | omega | (dsimp only;omega));exact ⟨(by dsimp only;omega),(by dsimp only;rw [yH Jo,<-Sy,ax5 h66 yu h69 hko]),(by dsimp only;omega),(by dsimp only;omega),(by dsimp only;omega),aES⟩
     refine zN 11 ?_;refine vv (v:= .int .i64 ((i+1:Nat):Int)) fJ ?_;refine zN 2 ?_;have aow:=lu.aP [0];refine aM (i+1,m,nb,Ab,cb,sl) ?_ ⟨rfl,rfl,rfl,rfl,rfl,rfl,rfl,rfl,rfl,trivial⟩ (by first | omega | (dsimp only;omega));exact ⟨(by dsimp only;omega),(by dsimp only;rw [yH Jo,<-Sy,ax4 h66 yu h69 hko]),(by dsimp only;omega),(by dsimp only;omega),(by dsimp only;omega),aow⟩
    refine zN 10 ?_;refine vv (v:= .int .i64 ((i+1:Nat):Int)) fJ ?_;refine zN 2 ?_;have ao9:=Bd.aP [0];refine aM (i+1,m,nb,Ab,cb,sl) ?_ ⟨rfl,rfl,rfl,rfl,rfl,rfl,rfl,rfl,rfl,trivial⟩ (by first | omega | (dsimp only;omega));exact ⟨(by dsimp only;omega),(by dsimp only;rw [yH Jo,<-Sy,ax3 h66 yu h69]),(by dsimp only;omega),(by dsimp only;omega),(by dsimp only;omega),ao9⟩
   refine zN 10 ?_;refine vv (v:= .int .i64 ((i+1:Nat):Int)) fJ ?_;refine zN 2 ?_;have WV:=Bd.aP [0];refine aM (i+1,m,nb,Ab,cb,sl) ?_ ⟨rfl,rfl,rfl,rfl,rfl,rfl,rfl,rfl,rfl,trivial⟩ (by first | omega | (dsimp only;omega));exact ⟨(by dsimp only;omega),(by dsimp only;rw [yH Jo,<-Sy,ax1 h66]),(by dsimp only;omega),(by dsimp only;omega),(by dsimp only;omega),WV⟩
  refine zN 10 ?_;have hkm:m=(Y.ready.length:Int)+Y.aA.length:=by have h:=Sy;rw [List.take_of_length_le (by omega)] at h;rw [<-hkp,<-h]
  refine zN 3 ?_;refine vv (aj rfl rfl (qw Tryz.underlying40 rfl (St.cl 2 oU rfl jT))) ?_;refine zN 2 ?_;refine vv (aj rfl rfl (qw Tryz.underlying41 rfl (St.cl 2 oU rfl kX))) ?_;refine zQ ?_;refine vv (v:= .int .i64 ((Y.ready.length+Y.aA.length:Nat):Int)) fJ ?_;refine zN 9 ?_;refine vv (v:= .int .i64 ((q+1:Nat):Int)) fJ ?_;refine zN 2 ?_;have aiE:=oU.aP [4,3,2,1,0];refine aM (q+1) ?_ ⟨rfl,rfl,rfl,rfl,trivial⟩ (by first | omega | (dsimp only;omega));exact ⟨(by omega),aiE⟩
 refine zN 20 ?_;exact ⟨rfl,iP.low⟩
theorem amd {gs:List Gr} {s:List Ac} (hs:s=cK gs 120 true): ∀ q,q<2-> ∃ o Y an,wm (mD.run (kE s (wu s))) q o/\(Sw (vI q (mD.run (kE s (wu s))).aQ)).1=(Y.ready.length:Int)+Y.aA.length/\av (((mD.run (kE s (wu s))).ah o).view q).evs=(Y,an,0)/\(((mD.run (kE s (wu s))).ah o).view q).evs.length<=2000/\Y.ready.length+Y.aA.length<=501:=by
 intro q hq;obtain ⟨o,Y,an,h1,h2,h3,h4⟩:=Um hs q hq;exact ⟨o,Y,an,h1,kept h2,h3,h4,Qu (by simp [bS]) h2⟩
theorem RP (W:World) (hu:Uk W.heap.size W) (args:Array Value) (h:dR (Qw Tryz.prog W) args.toList Tryz.f4.params.toList):
  Calls Tryz.prog 4 args W λe W'=>e= .returned (.bool true)/\Below W.heap.size W W':=by
 rw [Tryz.params4] at h;obtain ⟨v,l1,hv,h1,h0⟩:=dR.xB h;have h4:=dR.wz h0;subst h4;obtain rfl:args= #[v]:=by cases args;simp_all
 obtain ⟨A,c,gs,rfl,hr,hg⟩:=O5 h1;exact YT rfl rfl (by have:=Xy gs (m:=120) dQ true;omega) hg (CV rfl) (by have:=CO gs 120 true;omega) (by have:=JD (gs:=gs) rfl;omega) (aav (CV rfl) (JD rfl)) hu hr (amd rfl)
end Go.Proofs.YtlfgjcahpppbbaaGreatDoor
