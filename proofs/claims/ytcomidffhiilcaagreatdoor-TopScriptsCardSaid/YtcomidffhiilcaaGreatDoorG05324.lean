import Derived.Test.YtcomidffhiilcaaGreatDoorG5cb02
import Derived.Test.YtcomidffhiilcaaGreatDoorGd67e8
import Derived.Test.YtcomidffhiilcaaGreatDoorGeb831
set_option maxRecDepth 100000
set_option maxHeartbeats 8000000
set_option linter.unusedSimpArgs false
set_option linter.unusedVariables false
namespace Go.Proofs.YtcomidffhiilcaaGreatDoor
section
open ChangeShapes WideShapes RowKit
theorem TW {N:Nat} {l:Slots} {o:Oper} {w:World} {x:Operand} {s:TypeId} {f b o0:Nat} (o':Nat) (ho:o.op= .fieldAddr s x f:=by exact rfl) (hx:ev l x=some (.pointer (some ⟨b,o0,none⟩)):=by exact rfl) (hf: ∀ (b o:Nat) (w:World),(Instr.fieldAt s (.pointer (some ⟨b,o,none⟩)) f).run tP w= .ok (.pointer (some ⟨b,o+(o'-o0),none⟩)) w:=by (intro _ _ _;kernel_rfl)) (he:o0+(o'-o0)=o':=by exact rfl):iP tP N l o w (.pointer (some ⟨b,o',none⟩)):=vH o' hf ho hx he
theorem ap2:fA 85 0 0:=λ_ _ _=>kQ
end
section
abbrev oZ:Array Value:= #[iV 0,.bool false,.bool false,.bool false,.bool false,.bool false,iV 0,iV 0,iV 0,iV 0,iV 0,iV 0,iV 0,iV 0,.slice none 0 0,.slice none 0 0,.slice none 0 0,iV 0]
abbrev aR (a:Ac):Array Value:= #[iV a.kd,iV a.nd,iV a.qu,iV a.at_,iV a.kp,iV a.ek,iV a.ep,iV a.ei,iV a.eb,iV a.eh,iV a.en]
section
variable {P:Program} {N:Nat} {l:Slots} {w:World} {fn:Func} {R:Ending->World->Prop} {p:Prop} [Decidable p]
theorem nZ (hR:R (.returned (oq [])) w) (hr:fn.results=([]:List ResultVar).toArray:=by exact rfl):wQ N (bodyPost P fn R) .normal l w:=FE (rs:=[]) (vs:=[]) hr trivial hR
theorem Y5 (h:p):Ending.returned (.bool true)= .returned (.bool (decide p)):=by rw [decide_eq_true h]
theorem yX (h: ¬ p):Ending.returned (.bool false)= .returned (.bool (decide p)):=by rw [decide_eq_false h]
end
end
section
open ChangeShapes WideShapes RowKit
def jJ (l:List Int):List UInt8:=l.flatMap λn=>(qI n).1
theorem GH (n:Int):(qI n).1.length<=4:=by
 unfold qI
 split<;>simp [yT]
theorem Ed (l:List Int):(jJ l).length<=4*l.length:=by
 induction l with
 | nil=>simp [jJ]
 | cons n l ih=>
  have:=GH n;simp only [jJ,List.flatMap_cons,List.length_append,List.length_cons] at*;omega
theorem GI (l k:List Int):jJ (l++k)=jJ l++jJ k:=by simp [jJ]
theorem Y6 {l:List Int} {k:Nat} {x:Int} (h:l[k]? =some x):jJ (l.take (k+1))=jJ (l.take k)++(qI x).1:=by
 have e:l.take (k+1)=l.take k++[x]:=by rw [List.take_add_one,h];rfl
 rw [e,GI];simp [jJ]
theorem MV (A:Option Addr) (n c:Nat) (l:List Int) (w:World) (h:Rd w w.heap.size 1 A n (intCells l)) (hn:n<=1000):
  Calls Tryz.prog 156 #[.slice A n c] w (jw w 5 1 (jJ l).length (byteCells (jJ l))):=by
 obtain ⟨j0,hj0,QD,QE,QF⟩:=info_parts Dy;have H:=Lib.hid h;have HL:=Lib.hid h.aho;clear h
 go_enter Tryz.func156,Tryz.ntmps156
 go_wp2_with fail
 go_loopw [3,10] (λv i wr=> ∃ k:Nat,k<=n/\i= .int .i64 k/\Below w.heap.size w wr/\ ∃ A2 c2,v= .slice A2 (jJ (l.take k)).length c2/\wr.ownsRow w.heap.size 5 1 (.slice A2 (jJ (l.take k)).length c2) (jJ (l.take k)).length (byteCells (jJ (l.take k)))) (λ_ i _=>n-(intOf i).toNat)
 case atStart=>exact ⟨0,Nat.zero_le _,rfl,Below.refl _ _,none,0,rfl,jf _ _ _ _⟩
 case round=>
  obtain ⟨k,hk,rfl,hB,A2,c2,rfl,hown⟩:=hrel;have HB:=Lib.hid hB;have HO:=Lib.hid hown;have hle:=Ed (l.take k);have hlk:(l.take k).length<=k:=List.length_take_le _ _;by_cases hlt:k<n
  ·obtain ⟨b,off,x,rfl,hb,he,c0⟩:=(H.out.below hB (Nat.le_refl _)).amX hlt;have HP:=Lib.hid (Y6 he);have hl4:=GH x;have HN:=Lib.hid (OT x);clear hB hown he;generalize jJ (l.take k)=lk at HO HP hle;generalize qI x=r at HP HN hl4
   go_wp2_with fail
   refine (HN.out _).mono ?_;rintro e w2 ⟨A3,c3,rfl,hb2,hr2⟩;have HB2:=Lib.hid (HB.out.trans (hb2.mono HB.out.size));have HO2:Hid (w2.ownsRow w.heap.size 5 1 (.slice A2 lk.length c2) lk.length (byteCells lk)):=Lib.hid (Mq HO.out hb2);have HR2:=Lib.hid hr2;clear hb2 hr2
   go_wp2_with (at_builtin;refine jC _ rfl (.tmp 19) (.tmp 20) _ rfl w.heap.size 5 j0 _ 1 1 Tryz.underlying58 hj0 QD QE QF rfl oQ _ lk.length (byteCells lk) rfl HO2.out w2.heap.size A3 r.1.length c3 (byteCells r.1) rfl HR2.out (byteCells_one _) lQ oQ HB2.out.size ?_;intro v1 w3 hown1 hg1 KV)
   have HB3:=Lib.hid (HB2.out.grown hg1 HB2.out.size (HO2.out.yR ·));obtain ⟨A4,c4,rfl,_⟩:=lX hown1;rw [<-byteCells_append] at hown1;have HO3:=Lib.hid hown1;clear hown1 hg1 KV
   go_wp2_with fail
   go_roundw
   case rel=>exact ⟨k+1,by omega,by go_num,HB3.out,A4,c4,by rw [HP.out,List.length_append],by rw [HP.out,List.length_append];exact HO3.out⟩
   case measure=>simp [intOf];omega
  obtain rfl:k=n:=oQ;rw [List.take_of_length_le (by have:=HL.out;omega)] at HO hown hle⊢;clear hB hown
  go_wp2_with fail
  go_ret
  exact ⟨A2,c2,rfl,HB.out,HO.out⟩
def gq (r:dH):List Int:=[r.kind,r.queue,r.epoch,r.peer]++if kW r.kind=true then [r.ev.kind,r.ev.producer,r.ev.id,r.ev.body,r.ev.aL,r.ev.hno] else []
def nH (r:dH):List UInt8×Int:=if aJ r≠0 then ([],aJ r) else (jJ (gq r),0)
theorem Y7 (w:World) (a b c d:Int) (t:TypeId):Rd (w.alloc (.cells #[.int .i64 a,.int .i64 b,.int .i64 c,.int .i64 d] t)) (w.heap.size+1) 1 (some ⟨w.heap.size,0,none⟩) 4 (intCells [a,b,c,d]):=
 Rd.afS w t (intCells [a,b,c,d]) 4 1 rfl
theorem ael (w:World) (a b c d e f:Int) (t:TypeId):Rd (w.alloc (.cells #[.int .i64 a,.int .i64 b,.int .i64 c,.int .i64 d,.int .i64 e,.int .i64 f] t)) (w.heap.size+1) 1 (some ⟨w.heap.size,0,none⟩) 6 (intCells [a,b,c,d,e,f]):=
 Rd.afS w t (intCells [a,b,c,d,e,f]) 6 1 rfl
theorem O9 (r:dH) (w:World):Calls Tryz.prog 127 #[r.val] w (nG w (nH r)):=by
 obtain ⟨j0,hj0,QD,QE,QF⟩:=info_parts Dy;have HC:=Lib.hid (λw=>jI r w);have HR:Hid (nH r=if aJ r≠0 then ([],aJ r) else (jJ ([r.kind,r.queue,r.epoch,r.peer]++if kW r.kind=true then [r.ev.kind,r.ev.producer,r.ev.id,r.ev.body,r.ev.aL,r.ev.hno] else []),0)):=Lib.hid rfl;generalize nH r=z at HR⊢;generalize aJ r=f at HC HR;obtain ⟨k,q,ep,pe,x0,x1,x2,x3,x4,x5⟩:=r;unfold dH.val at HC⊢;simp only at HC HR⊢
 go_enter Tryz.func127,Tryz.ntmps127
 go_wp2_with fail
 refine (HC.out _).mono ?_;rintro e w1 ⟨rfl,hb1⟩;have B0:=(fK.new w _ _).below hb1 iQ;obtain ⟨c0,c1,c2,c3,c4,c5,c6,c7,c8,c9,cf⟩:=B0.kF;have hz1:w.heap.size<w1.heap.size:=B0.lt;have HB:Hid (Below w.heap.size w w1):=Lib.hid (Below.trans gQ (hb1.mono iQ));clear hb1;by_cases hf:f=0
 ·have HR2:=Lib.hid (HR.out.trans (if_neg (by simpa using hf)));subst hf;clear HR HC
  go_wp2_with fail
  refine (MV _ 4 4 [k,q,ep,pe] _ (by have:=Y7 w1 k q ep pe 3;simpa using this) oQ).mono ?_;rintro e w2 ⟨A1,d1,rfl,hb2,hown⟩;have C0:=(B0.alloc _).on hb2;have HB2:=Lib.hid ((HB.out.alloc oQ _).trans (hb2.mono jQ));have HO:Hid (w2.ownsRow (w1.heap.size+1) 5 1 (.slice A1 (jJ [k,q,ep,pe]).length d1) (jJ [k,q,ep,pe]).length (byteCells (jJ [k,q,ep,pe]))):=Lib.hid (by simpa using hown);have hz2:w1.heap.size+1<=w2.heap.size:=by have:=hb2.size;simpa using this
  have aGw:w.heap.size<w2.heap.size:=oQ;have hl1:=Ed [k,q,ep,pe];clear hb2 hown c0 c1 c2 c3 c4 c5 c6 c7 c8 c9 cf B0 HB;obtain ⟨c0,c1,c2,c3,c4,c5,c6,c7,c8,c9,cf⟩:=C0.kF
  cases he:kW k
  ·have e:=HR2.out;rw [if_neg (by rw [he];simp),List.append_nil] at e;subst e;clear HR2
   go_wp2_with (go_at_call 109;refine (fI _ _).mono ?_;rintro e w' ⟨rfl,rfl⟩;rw [he])
   go_ret2
   exact ⟨A1,d1,rfl,HB2.out,Rd.tF HO.out⟩
  have e:=HR2.out;rw [if_pos he,GI] at e;subst e;clear HR2;have hl2:=Ed [x0,x1,x2,x3,x4,x5];have HP:=Lib.hid (λA c w h=>MV A 6 c [x0,x1,x2,x3,x4,x5] w h oQ);simp only [List.length_cons,List.length_nil] at hl1 hl2
  go_wp2_with (go_at_call 109;refine (fI _ _).mono ?_;rintro e w' ⟨rfl,rfl⟩;rw [he])
  refine (HP.out _ _ _ (by have:=ael (w2.alloc (.cells #[.int .i64 x0,.int .i64 x1,.int .i64 x2,.int .i64 x3,.int .i64 x4,.int .i64 x5] 46)) x0 x1 x2 x3 x4 x5 3;simpa using this)).mono ?_;rintro e w3 ⟨A2,d2,rfl,hb3,hown2⟩;have HB3:=Lib.hid (((HB2.out.alloc oQ _).alloc jQ _).trans (hb3.mono jQ));have HO2:=Lib.hid (Mq ((HO.out.alloc _).alloc _) hb3);have HR3:=Lib.hid (Rd.tF hown2);have hz3:w2.heap.size<=w3.heap.size:=by have:=hb3.size;simp at this;omega
  clear hb3 hown2 HO HB2
  go_wp2_with (at_builtin;refine jC _ rfl (.tmp 27) (.tmp 43) _ rfl (w1.heap.size+1) 5 j0 _ 1 1 Tryz.underlying58 hj0 QD QE QF rfl oQ _ (jJ [k,q,ep,pe]).length (byteCells (jJ [k,q,ep,pe])) rfl HO2.out w3.heap.size A2 (jJ [x0,x1,x2,x3,x4,x5]).length d2 (byteCells (jJ [x0,x1,x2,x3,x4,x5])) rfl HR3.out (byteCells_one _) lQ oQ oQ ?_;intro v1 w4 hown1 hg1 KV;obtain ⟨A4,d4,rfl,_⟩:=lX hown1;rw [<-byteCells_append] at hown1)
  have HB4:=Lib.hid (HB3.out.grown hg1 HB3.out.size (λk hk=>by have:=HO2.out.yR k hk;omega))
  go_ret2
  exact ⟨A4,d4,by simp,HB4.out,by have:=Rd.tF hown1;simpa using this⟩
 have e:=HR.out.trans (if_pos hf);subst e;have t0:(f==0)=false:=by simpa using hf
 have t0':(f != 0)=true:=by simpa using hf
 clear hf
 go_wp2_with fail
 go_ret2
 exact ⟨none,0,rfl,HB.out,Rd.none_⟩
def headed (p:List UInt8):List UInt8:=UInt8.ofNat (p.length / 256)::UInt8.ofNat (p.length % 256)::p
def jO (p:List UInt8):List UInt8:=headed p++yT (zk (headed p))
theorem uL (p:List UInt8):(jO p).length=p.length+6:=by simp [jO,headed,yT]
theorem Wj (p:List UInt8):(headed p).length=p.length+2:=by simp [headed]
theorem Wm {n:Int} (h0:0<=n) (h1:n<=4294967295):
  byteCells (yT n)=[.int .u8 (n / 16777216),.int .u8 (n / 65536 % 256),.int .u8 (n / 256 % 256),.int .u8 (n % 256)]:=by
 have key: ∀ m:Int,0<=m->m<=255->((UInt8.ofNat m.toNat).toNat:Int)=m:=by
  intro m a b;simp;omega
 simp only [byteCells,yT,List.map_cons,List.map_nil];rw [key _ oQ oQ,key _ oQ oQ,key _ oQ oQ,key _ oQ oQ]
theorem Kr (l:List UInt8):0<=zk l/\zk l<=4293984240:=by
 unfold zk;omega
theorem Pb (p:List UInt8) (h:p.length<=65535):byteCells (headed p)=[.int .u8 ((p.length:Int) / 256),.int .u8 ((p.length:Int) % 256)]++byteCells p:=by
 simp only [headed,byteCells,List.map_cons,List.cons_append,List.nil_append,List.cons.injEq,Value.int.injEq,true_and,and_true]
 constructor
 ·simp;omega
 simp
theorem two_bytes (w:World) (a b:Int):(w.alloc (.cells #[.int .u8 a,.int .u8 b] 5)).ownsRow w.heap.size 5 1 (.slice (some ⟨w.heap.size,0,none⟩) 2 2) 2 [.int .u8 a,.int .u8 b]:=
 Xg w _ 5 2 1 rfl (by simp [maxLen])
theorem Wn (w:World) (s:Int) (h0:0<=s) (h1:s<=4294967295):Rd (w.alloc (.cells #[.int .u8 (s / 16777216),.int .u8 (s / 65536 % 256),.int .u8 (s / 256 % 256),.int .u8 (s % 256)] 5)) (w.heap.size+1) 1 (some ⟨w.heap.size,0,none⟩) 4 (byteCells (yT s)):=by
 rw [Wm h0 h1];exact Rd.afS w 5 _ 4 1 rfl
theorem SK (A:Option Addr) (n c:Nat) (p:List UInt8) (w:World) (h:Rd w w.heap.size 1 A n (byteCells p)) (hn:n<=1000):
  Calls Tryz.prog 128 #[.slice A n c] w (jw w 5 1 (jO p).length (byteCells (jO p))):=by
 obtain ⟨j0,hj0,QD,QE,QF⟩:=info_parts Dy;have hl:=h.nE;subst hl;have H:=Lib.hid h;have HC:=Lib.hid (Pb p oQ);have HS:=Lib.hid (λA n c w (h:Rd w w.heap.size 1 A n (byteCells (headed p)))=>ML A n c (headed p) w h (by have:=h.nE;have:=Wj p;omega));have HF:Hid ((jO p).length=p.length+6/\byteCells (jO p)=byteCells (headed p)++byteCells (yT (zk (headed p)))):=Lib.hid ⟨uL p,by rw [jO,byteCells_append]⟩;obtain ⟨s0,s1⟩:=Kr (headed p);clear h;generalize jO p=z at HF⊢;generalize zk (headed p)=s at HS HF s0 s1;have H4:=Lib.hid (λw=>Wn w s s0 oQ);have H2:=Lib.hid (two_bytes w ((p.length:Int) / 256) ((p.length:Int) % 256))
 go_enter Tryz.func128,Tryz.ntmps128
 go_wp2_with (at_builtin;refine jC _ rfl (.tmp 12) (.tmp 13) _ rfl w.heap.size 5 j0 _ 1 1 Tryz.underlying58 hj0 QD QE QF rfl oQ (.slice (some ⟨w.heap.size,0,none⟩) 2 2) 2 _ rfl H2.out w.heap.size A p.length c (byteCells p) rfl (by exact H.out.alloc (Nat.le_refl _) _) (byteCells_one _) lQ oQ iQ ?_;intro v1 w3 hown1 hg1 KV;obtain ⟨A4,c4,rfl,_⟩:=lX hown1;rw [<-HC.out] at hown1)
 have HB3:Hid (Below w.heap.size w w3):=Lib.hid (Below.grown gQ hg1 iQ (λk hk=>by simp [Value.ownBlock] at hk;omega));have HO3:=Lib.hid hown1;have HR3:=Lib.hid (Rd.tF hown1);have hz3:w.heap.size<w3.heap.size:=by have:=hg1.size;simp at this;omega
 clear hown1 hg1 KV
 go_wp2_with fail
 refine (HS.out _ _ _ _ (by exact HR3.out)).mono ?_;rintro e w4 ⟨rfl,q,rfl⟩;have HO4:Hid ((w3.drewN q).ownsRow w.heap.size 5 1 (.slice A4 (2+p.length) c4) (2+p.length) (byteCells (headed p))):=HO3;have HB4:=Lib.hid (IZ HB3.out q);have hz4:w.heap.size< (w3.drewN q).heap.size:=hz3;clear HO3 HR3;generalize w3.drewN q=w4 at HO4 HB4 hz4⊢
 go_wp2_with (at_builtin;refine jC _ rfl (.tmp 17) (.tmp 29) _ rfl w.heap.size 5 j0 _ 1 1 Tryz.underlying58 hj0 QD QE QF rfl oQ _ (2+p.length) (byteCells (headed p)) rfl (HO4.out.alloc _) (w4.heap.size+1) (some ⟨w4.heap.size,0,none⟩) 4 4 (byteCells (yT s)) rfl (H4.out w4) (byteCells_one _) lQ oQ jQ ?_;intro v1 w5 hown1 hg1 KV;obtain ⟨A5,c5,rfl,_⟩:=lX hown1;rw [<-HF.out.2,show 2+p.length+4=z.length by rw [HF.out.1];omega] at hown1)
 have HB5:=Lib.hid (((HB4.out.alloc oQ _).grown hg1 jQ (λk hk=>HO4.out.yR k hk)))
 go_ret
 rw [show 2+p.length+4=z.length by rw [HF.out.1];omega];exact ⟨A5,c5,rfl,HB5.out,hown1⟩
end
end Go.Proofs.YtcomidffhiilcaaGreatDoor
