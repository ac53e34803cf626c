import Derived.Test.YthhnonpehllibaaGreatDoorG1476f
import Derived.Test.YthhnonpehllibaaGreatDoorG2c04e
import Derived.Test.YthhnonpehllibaaGreatDoorG4d024
set_option maxRecDepth 100000
set_option maxHeartbeats 8000000
namespace Go.Proofs.YthhnonpehllibaaGreatDoor
section
open ChangeShapes WideShapes ChangeAt RowKit
theorem iY {l:Slots} {x:Operand} {v:Value} (h:ev l x=some v):EvO l (some x) (some v):=h
theorem mh {l:Slots}:EvO l none none:=trivial
theorem alm {kd:IntKind} {a b:Int} (h:a=b):some (Value.int kd a)=some (Value.int kd b):=by rw [h]
section
variable {P:Program} {w:World} {t e:TypeId} {A:Option Addr} {n c s B:Nat} {xs:List Value} {kd ke kf:IntKind}
theorem pI {i:Int} (k y:Nat) (code:BoundsCode) (hik:i=k) (hy:k<=y) (w:World):(Instr.sliceBound (.int kd i) y code).run P w= .ok k w:=by
 subst hik;have h1:(0:Int)<=k/\(k:Int)<=y:=by omega
 simp [Instr.sliceBound,asIntOf,Sem.run_bind,Result.andThen,h1,hy]
theorem afo {i:Int} (l:Nat) (hi:i=l) (h:l<=n) (w:World):(Instr.sliceBounds true n c (some (.int kd i)) none none).run P w= .ok (l,n,c) w:=by
 simp [Instr.sliceBounds,Sem.run_bind,Result.andThen,pI l n _ hi h]
theorem asF {i:Int} (k:Nat) (hi:i=k) (h:k<=c) (w:World):(Instr.sliceBounds true n c none (some (.int kd i)) none).run P w= .ok (0,k,c) w:=by
 simp [Instr.sliceBounds,Sem.run_bind,Result.andThen,pI k c _ hi h]
theorem Vj {i j:Int} (l k:Nat) (hi:i=l) (hj:j=k) (hlk:l<=k) (h:k<=c) (w:World):(Instr.sliceBounds true n c (some (.int kd i)) (some (.int ke j)) none).run P w= .ok (l,k,c) w:=by
 simp [Instr.sliceBounds,Sem.run_bind,Result.andThen,pI k c _ hj h,pI l k _ hi hlk]
theorem abN {j m:Int} (k q:Nat) (hj:j=k) (hm:m=q) (hkq:k<=q) (h:q<=c) (w:World):(Instr.sliceBounds true n c none (some (.int ke j)) (some (.int kf m))).run P w= .ok (0,k,q) w:=by
 simp [Instr.sliceBounds,Sem.run_bind,Result.andThen,pI q c _ hm h,pI k q _ hj hkq]
theorem acy {i j m:Int} (l k q:Nat) (hi:i=l) (hj:j=k) (hm:m=q) (hlk:l<=k) (hkq:k<=q) (h:q<=c) (w:World):(Instr.sliceBounds true n c (some (.int kd i)) (some (.int ke j)) (some (.int kf m))).run P w= .ok (l,k,q) w:=by
 simp [Instr.sliceBounds,Sem.run_bind,Result.andThen,pI q c _ hm h,pI k q _ hj hkq,pI l k _ hi hlk]
theorem add_block (a:Addr) (k:Nat):a.block=(a.add k).block:=by
 unfold Addr.add
 split<;>rfl
theorem AZ {lo hi mx:Option Value} {l k q:Nat} (hu:P.underlying t=some (.slice e)) (hz:(P.info? e).map (·.size)=some s) (hb: ∀ w,(Instr.sliceBounds true n c lo hi mx).run P w= .ok (l,k,q) w) (hlk:l<=k) (hkn:k<=n) (hkq:k<=q):
  ∃ A',(∀ w,(Instr.sliceAt t (.slice A n c) lo hi mx).run P w= .ok (.slice A' (k-l) (q-l)) w)/\(∀ (w:World) (B:Nat) (xs:List Value),Rd w B s A n xs->Rd w B s A' (k-l) ((xs.drop (l*s)).take ((k-l)*s)))/\ ∀ a',A'=some a'-> ∃ a,A=some a/\a.block=a'.block:=by
 obtain ⟨z,hq,hs⟩: ∃ z,P.info? e=some z/\z.size=s:=by
  cases h:P.info? e with
  | none=>simp [h] at hz
  | some z=>exact ⟨z,rfl,by simpa [h] using hz⟩
 refine ⟨if q=l then A else A.map (·.add (l*s)),λw=>?_,?_,?_⟩
 ·have h1:(sizeOf e).run P w= .ok s w:=by simp [sizeOf,typeInfo,hq,hs,Sem.run_bind,Result.andThen]
  simp [Instr.sliceAt,Instr.slice,run_underlying hu,Sem.run_bind,Result.andThen,hb,h1]
 ·intro w B xs hR;refine ⟨?_,λhn=>?_⟩
  ·rw [List.length_take,List.length_drop,hR.1,<-Nat.sub_mul];exact Nat.min_eq_left (Nat.mul_le_mul_right _ (by omega))
  obtain ⟨b,off,rfl,hb,hcell⟩:=hR.2 (by omega);rw [if_neg (by omega)];refine ⟨b,off+l*s,?_,hb,λj u hu=>?_⟩
  ·simp only [Option.map_some,Option.some.injEq];rw [Go.WideShapes.add_plain]
  rw [Nat.add_assoc];refine hcell _ u ?_;have hj:j< (k-l)*s:=by
   have:=(List.getElem?_eq_some_iff.1 hu).1;rw [List.length_take] at this;omega
  rw [List.getElem?_take_of_lt hj,List.getElem?_drop] at hu;exact hu
 intro a' h
 split at h
 ·exact ⟨a',h,rfl⟩
 cases A with
 | none=>cases h
 | some a=>cases h;exact ⟨a,rfl,add_block a _⟩
theorem Zo {lo hi mx:Option Value} {l k q:Nat} (hu:P.underlying t=some (.slice e)) (hz:(P.info? e).map (·.size)=some s) (hb: ∀ w,(Instr.sliceBounds true n c lo hi mx).run P w= .ok (l,k,q) w) (hR:Rd w B s A n xs) (hlk:l<=k) (hkn:k<=n) (hkq:k<=q):
  ∃ A',(∀ w,(Instr.sliceAt t (.slice A n c) lo hi mx).run P w= .ok (.slice A' (k-l) (q-l)) w)/\Rd w B s A' (k-l) ((xs.drop (l*s)).take ((k-l)*s))/\ ∀ a',A'=some a'-> ∃ a,A=some a/\a.block=a'.block:=by
 obtain ⟨A',h1,h2,h3⟩:=AZ (A:=A) hu hz hb hlk hkn hkq;exact ⟨A',h1,h2 _ _ _ hR,h3⟩
theorem adv {lo hi mx:Option Value} {l k q:Nat} (hu:P.underlying t=some (.slice e)) (hz:(P.info? e).map (·.size)=some s) (hb: ∀ w,(Instr.sliceBounds true n c lo hi mx).run P w= .ok (l,k,q) w) (hR:Rd w B s A n xs) (hlk:l<=k) (hkn:k<=n) (hkq:k<=q):
  ∃ A',(∀ w,(Instr.sliceAt t (.slice A n c) lo hi mx).run P w= .ok (.slice A' (k-l) (q-l)) w)/\Rd w B s A' (k-l) ((xs.drop (l*s)).take ((k-l)*s)):=by
 obtain ⟨A',h1,h2,_⟩:=Zo hu hz hb hR hlk hkn hkq;exact ⟨A',h1,h2⟩
theorem aiN {x y:Int} {ts:Array TypeId} {ty:TypeId} {cs:Array Bool}:(builtin .min ts ty cs #[.int kd x,.int kd y]).run P w= .ok (.value (.int kd (min x y))) w:=by
 have:(if y<x then y else x)=min x y:=by split<;>omega
 simp [builtin,run_min_int2,Sem.run_bind,Result.andThen,this]
theorem UA {x y:Nat} {ts:Array TypeId} {ty:TypeId} {cs:Array Bool}:(builtin .min ts ty cs #[.int kd x,.int kd y]).run P w= .ok (.value (.int kd ((min x y:Nat):Int))) w:=by
 rw [aiN,show min (x:Int) (y:Int)=((min x y:Nat):Int) by omega]
theorem Ib {op:BinOp} {xo yo:Operand} {a b:Array Value} {v:Value} (hg:P.eqGuardType P.depth t=false) (h:(binOp op t (.agg a) (.agg b)).run P w= .ok v w):(do eqGuard op t xo yo (.agg a) (.agg b);binOp op t (.agg a) (.agg b):Sem Value).run P w= .ok v w:=by
 have h1:(eqGuard op t xo yo (.agg a) (.agg b)).run P w= .ok () w:=by
  have hp: ∀ w,(program:Sem Program).run P w= .ok P w:=λ_=>rfl;unfold eqGuard
  cases op<;>first | rfl | simp [hp,Sem.run_bind,Result.andThen,hg]
 rw [Sem.run_bind,h1];exact h
theorem Zp {s t:TypeId} {k:IntKind} {x:Int} (hs:(P.underlying s).isSome=true) (ht:P.underlying t=some (.int k)) {z:Int} (hz:k.wrap x=z):(convert s t (.int kd x)).run P w= .ok (.int k z) w:=by
 obtain ⟨ds,hs⟩:=Option.isSome_iff_exists.1 hs;subst hz;simp [convert,Sem.run_bind,run_underlying hs,run_underlying ht,Result.andThen,Conv.intToInt]
theorem u8_in (a:UInt8):0<=(a.toNat:Int)/\(a.toNat:Int)<=255:=by
 have:=a.toNat_lt;omega
theorem OZ {s t:TypeId} {a:UInt8} (hs:P.underlying s=some (.int .u8)) (ht:P.underlying t=some (.int .i64)):(convert s t (.int .u8 (a.toNat:Int))).run P w= .ok (iV (a.toNat:Int)) w:=
 Zp (by rw [hs];rfl) ht (wrap64_in (by have:=u8_in a;omega) (by have:=u8_in a;omega))
theorem acz {xo yo:Operand} {x z:Int} (hz:x*256=z) (h0:0<=x) (h1:x<=1099511627776):(do eqGuard .shl t xo yo (iV x) (.int .u64 8);binOp .shl t (iV x) (.int .u64 8):Sem Value).run P w= .ok (iV z) w:=by
 subst hz;have:IntKind.i64.wrap (x*256)=x*256:=wrap64_in (by omega) (by omega);simp [binOp,eqGuard_shl,shift_shl_i64,this]
theorem apU {xo yo:Operand} {v x z:Int} (hz:v*256+x=z) (h0:0<=v) (h1:v<=1099511627776) (h2:0<=x) (h3:x<=255):(do eqGuard .or t xo yo (iV (v*256)) (iV x);binOp .or t (iV (v*256)) (iV x):Sem Value).run P w= .ok (iV z) w:=by
 subst hz;have:=or8 v x h0 h1 h2 h3;simp [binOp,eqGuard_or,intBits_or,this]
theorem Nq {b:List UInt8} {lo hi mx:Option Value} {l k q m c':Nat} (hu:P.underlying t=some (.slice e)) (hz:(P.info? e).map (·.size)=some 1) (hb: ∀ w,(Instr.sliceBounds true b.length c lo hi mx).run P w= .ok (l,k,q) w) (hR:Rd w B 1 A b.length (byteCells b))
  (hlk:l<=k) (hkn:k<=b.length) (hkq:k<=q) (hm:k-l=m) (hc:q-l=c'): ∃ A',(∀ w,(Instr.sliceAt t (.slice A b.length c) lo hi mx).run P w= .ok (.slice A' m c') w)/\Rd w B 1 A' m (byteCells ((b.drop l).take m)):=by
 subst hm;subst hc;obtain ⟨A',h1,h2⟩:=adv hu hz hb hR hlk hkn hkq;refine ⟨A',h1,?_⟩;rw [Nat.mul_one,Nat.mul_one] at h2;simpa [byteCells,List.map_drop,List.map_take] using h2
theorem ags {b:List UInt8} {lo hi mx:Option Value} {l k q m c':Nat} (hu:P.underlying t=some (.slice e)) (hz:(P.info? e).map (·.size)=some 1) (hb: ∀ w,(Instr.sliceBounds true b.length c lo hi mx).run P w= .ok (l,k,q) w)
  (hlk:l<=k) (hkn:k<=b.length) (hkq:k<=q) (hm:k-l=m) (hc:q-l=c'): ∃ A',(∀ w,(Instr.sliceAt t (.slice A b.length c) lo hi mx).run P w= .ok (.slice A' m c') w)/\(∀ (w:World) (B:Nat),Rd w B 1 A b.length (byteCells b)->Rd w B 1 A' m (byteCells ((b.drop l).take m)))/\ ∀ a',A'=some a'-> ∃ a,A=some a/\a.block=a'.block:=by
 subst hm;subst hc;obtain ⟨A',h1,h2,h3⟩:=AZ (A:=A) hu hz hb hlk hkn hkq;refine ⟨A',h1,λw B hR=>?_,h3⟩
 replace h2:=h2 w B _ hR
 rw [Nat.mul_one,Nat.mul_one] at h2;simpa [byteCells,List.map_drop,List.map_take] using h2
end
end
section
open ChangeShapes WideShapes RowKit
abbrev fA (s f k:Nat):Prop:= ∀ (b o:Nat) (w:World),(Instr.fieldAt s (.pointer (some ⟨b,o,none⟩)) f).run tP w= .ok (.pointer (some ⟨b,o+k,none⟩)) w
theorem lH:(tP.info? 3).map (·.size)=some 1:=by kernel_rfl
theorem Iq:(tP.info? 4).map (·.size)=some 1:=by kernel_rfl
theorem Vk:(tP.info? 5).map (·.size)=some 1:=by kernel_rfl
theorem apV:(tP.info? 22).map (·.size)=some 1:=by kernel_rfl
theorem apW:(tP.info? 23).map (·.size)=some 1:=by kernel_rfl
theorem apX:(tP.info? 26).map (·.size)=some 1:=by kernel_rfl
theorem apY:(tP.info? 27).map (·.size)=some 1:=by kernel_rfl
theorem apZ:(tP.info? 31).map (·.size)=some 2:=by kernel_rfl
theorem aln:fA 31 0 0:=λ_ _ _=>by kernel_rfl
theorem alo:fA 31 1 1:=λ_ _ _=>by kernel_rfl
theorem iQ:(tP.info? 32).map (·.size)=some 2:=by kernel_rfl
theorem alp:fA 32 0 0:=λ_ _ _=>by kernel_rfl
theorem alq:fA 32 1 1:=λ_ _ _=>by kernel_rfl
theorem oQ:(tP.info? 35).map (·.size)=some 8:=by kernel_rfl
theorem abO:(tP.info? 36).map (·.size)=some 1:=by kernel_rfl
theorem aiO:(tP.info? 37).map (·.size)=some 1:=by kernel_rfl
theorem aiP:(tP.info? 38).map (·.size)=some 1:=by kernel_rfl
theorem ap0:(tP.info? 39).map (·.size)=some 18:=by kernel_rfl
theorem alr:fA 39 0 0:=λ_ _ _=>by kernel_rfl
theorem als:fA 39 1 1:=λ_ _ _=>by kernel_rfl
theorem alu:fA 39 2 6:=λ_ _ _=>by kernel_rfl
theorem alv:fA 39 3 14:=λ_ _ _=>by kernel_rfl
theorem alx:fA 39 4 15:=λ_ _ _=>by kernel_rfl
theorem uq:(tP.info? 40).map (·.size)=some 18:=by kernel_rfl
theorem aly:(tP.info? 40).map (λi=>(i.zero,i.size,i.bytes))=some (some (.agg #[iV 0,.bool false,.bool false,.bool false,.bool false,.bool false,iV 0,iV 0,iV 0,iV 0,iV 0,iV 0,iV 0,iV 0,.slice none 0 0,.slice none 0 0,.slice none 0 0,iV 0]),18,160):=by kernel_rfl
theorem alz:fA 40 0 0:=λ_ _ _=>by kernel_rfl
theorem alA:fA 40 1 1:=λ_ _ _=>by kernel_rfl
theorem alB:fA 40 2 6:=λ_ _ _=>by kernel_rfl
theorem alC:fA 40 3 14:=λ_ _ _=>by kernel_rfl
theorem alD:fA 40 4 15:=λ_ _ _=>by kernel_rfl
theorem alE:fA 40 5 16:=λ_ _ _=>by kernel_rfl
theorem alF:fA 40 6 17:=λ_ _ _=>by kernel_rfl
theorem ap1:(tP.info? 48).map (·.size)=some 1:=by kernel_rfl
theorem wV:(tP.info? 41).map (·.size)=some 1:=by kernel_rfl
theorem aB:(tP.info? 43).map (·.size)=some 6:=by kernel_rfl
theorem alG:(tP.info? 43).map (λi=>(i.zero,i.size,i.bytes))=some (some (.agg #[iV 0,iV 0,iV 0,iV 0,iV 0,.slice none 0 0]),6,64):=by kernel_rfl
theorem Nr:fA 43 0 0:=λ_ _ _=>by kernel_rfl
theorem alH:fA 43 1 1:=λ_ _ _=>by kernel_rfl
theorem alI:fA 43 2 2:=λ_ _ _=>by kernel_rfl
theorem alJ:fA 43 3 3:=λ_ _ _=>by kernel_rfl
theorem alK:fA 43 4 4:=λ_ _ _=>by kernel_rfl
theorem acA:fA 43 5 5:=λ_ _ _=>by kernel_rfl
theorem sJ:(tP.info? 44).map (·.size)=some 1:=by kernel_rfl
theorem acB:(tP.info? 44).map (λi=>(i.zero,i.size,i.bytes))=some (some (.slice none 0 0),1,24):=by kernel_rfl
theorem PZ:(tP.info? 162).map (·.size)=some 1:=by kernel_rfl
theorem P5:(tP.info? 163).map (·.size)=some 1:=by kernel_rfl
theorem EZ:(tP.info? 166).map (·.size)=some 9:=by kernel_rfl
theorem aiQ:(tP.info? 167).map (·.size)=some 36:=by kernel_rfl
theorem jR:(tP.info? 169).map (·.size)=some 41:=by kernel_rfl
theorem alL:fA 169 0 0:=λ_ _ _=>by kernel_rfl
theorem alM:fA 169 1 1:=λ_ _ _=>by kernel_rfl
theorem alN:fA 169 2 2:=λ_ _ _=>by kernel_rfl
theorem alO:fA 169 3 3:=λ_ _ _=>by kernel_rfl
theorem alP:fA 169 4 4:=λ_ _ _=>by kernel_rfl
theorem alQ:fA 169 5 5:=λ_ _ _=>by kernel_rfl
theorem Vl:(tP.info? 51).map (·.size)=some 2:=by kernel_rfl
theorem alR:fA 51 0 0:=λ_ _ _=>by kernel_rfl
theorem alS:fA 51 1 1:=λ_ _ _=>by kernel_rfl
theorem iE:(tP.info? 53).map (·.size)=some 6:=by kernel_rfl
theorem p9:(tP.info? 53).map (λi=>(i.zero,i.size,i.bytes))=some (some (.agg #[iV 0,iV 0,iV 0,iV 0,iV 0,iV 0]),6,48):=by kernel_rfl
theorem alT:fA 53 0 0:=λ_ _ _=>by kernel_rfl
theorem alU:fA 53 1 1:=λ_ _ _=>by kernel_rfl
theorem alV:fA 53 2 2:=λ_ _ _=>by kernel_rfl
theorem alW:fA 53 3 3:=λ_ _ _=>by kernel_rfl
theorem alX:fA 53 4 4:=λ_ _ _=>by kernel_rfl
theorem kg:(tP.info? 57).map (·.size)=some 11:=by kernel_rfl
theorem alY:(tP.info? 57).map (λi=>(i.zero,i.size,i.bytes))=some (some (.agg #[iV 0,iV 0,iV 0,iV 0,iV 0,iV 0,iV 0,iV 0,iV 0,iV 0,iV 0]),11,88):=by kernel_rfl
theorem alZ:fA 57 0 0:=λ_ _ _=>by kernel_rfl
theorem al0:fA 57 1 1:=λ_ _ _=>by kernel_rfl
theorem al1:fA 57 2 2:=λ_ _ _=>by kernel_rfl
theorem al2:fA 57 3 3:=λ_ _ _=>by kernel_rfl
theorem al3:fA 57 4 4:=λ_ _ _=>by kernel_rfl
theorem al4:fA 57 5 5:=λ_ _ _=>by kernel_rfl
theorem dx:(tP.info? 101).map (·.size)=some 4:=by kernel_rfl
theorem al5:(tP.info? 101).map (λi=>(i.zero,i.size,i.bytes))=some (some (.agg #[iV 0,iV 0,iV 0,iV 0]),4,32):=by kernel_rfl
theorem ap2:(tP.info? 102).map (·.size)=some 7:=by kernel_rfl
theorem al6:fA 102 0 0:=λ_ _ _=>by kernel_rfl
theorem al7:fA 102 1 1:=λ_ _ _=>by kernel_rfl
theorem abP:(tP.info? 103).map (·.size)=some 7:=by kernel_rfl
theorem al8:(tP.info? 103).map (λi=>(i.zero,i.size,i.bytes))=some (some (.agg #[iV 0,iV 0,iV 0,iV 0,iV 0,iV 0,iV 0]),7,56):=by kernel_rfl
theorem al9:fA 103 2 5:=λ_ _ _=>by kernel_rfl
theorem ama:(tP.info? 150).map (λi=>(i.zero,i.size,i.bytes))=some (some (.agg #[iV 0,iV 0,iV 0,iV 0,iV 0,iV 0,iV 0,iV 0,iV 0,iV 0,iV 0,iV 0,iV 0,iV 0]),14,112):=by kernel_rfl
theorem E5:(tP.info? 209).map (·.size)=some 2:=by kernel_rfl
theorem UC:(tP.info? 209).map (λi=>(i.zero,i.size,i.bytes))=some (some (.agg #[iV 0,iV 0]),2,16):=by kernel_rfl
theorem amb:fA 209 0 0:=λ_ _ _=>by kernel_rfl
theorem amc:fA 209 1 1:=λ_ _ _=>by kernel_rfl
theorem Ic:(tP.info? 212).map (·.size)=some 4:=by kernel_rfl
theorem acC:(tP.info? 212).map (λi=>(i.zero,i.size,i.bytes))=some (some (.agg #[iV 0,iV 0,iV 0,iV 0]),4,32):=by kernel_rfl
theorem amd:fA 212 0 0:=λ_ _ _=>by kernel_rfl
theorem ame:fA 212 1 2:=λ_ _ _=>by kernel_rfl
theorem abQ:(tP.info? 46).map (·.size)=some 2:=by kernel_rfl
theorem amf:(tP.info? 59).map (·.size)=some 5:=by kernel_rfl
theorem agt:fA 59 0 0:=λ_ _ _=>by kernel_rfl
theorem agu:fA 59 1 1:=λ_ _ _=>by kernel_rfl
theorem agv:fA 59 2 2:=λ_ _ _=>by kernel_rfl
theorem agw:fA 59 3 3:=λ_ _ _=>by kernel_rfl
theorem agx:fA 59 4 4:=λ_ _ _=>by kernel_rfl
theorem UD:(tP.info? 60).map (·.size)=some 5:=by kernel_rfl
theorem X7:fA 60 0 0:=λ_ _ _=>by kernel_rfl
theorem O1:fA 60 1 1:=λ_ _ _=>by kernel_rfl
theorem X8:fA 60 2 2:=λ_ _ _=>by kernel_rfl
theorem Ap:fA 60 3 3:=λ_ _ _=>by kernel_rfl
theorem O4:fA 60 4 4:=λ_ _ _=>by kernel_rfl
theorem E8:(tP.info? 72).map (·.size)=some 1:=by kernel_rfl
theorem Cc:(tP.info? 73).map (·.size)=some 1:=by kernel_rfl
theorem zw:(tP.info? 75).map (·.size)=some 2:=by kernel_rfl
theorem agy:fA 75 0 0:=λ_ _ _=>by kernel_rfl
theorem agz:fA 75 1 1:=λ_ _ _=>by kernel_rfl
theorem Ns:(tP.info? 76).map (·.size)=some 8:=by kernel_rfl
theorem agA:fA 79 0 0:=λ_ _ _=>by kernel_rfl
theorem agB:fA 79 1 1:=λ_ _ _=>by kernel_rfl
theorem agC:fA 79 2 9:=λ_ _ _=>by kernel_rfl
theorem agD:fA 79 3 10:=λ_ _ _=>by kernel_rfl
theorem agE:fA 79 4 50:=λ_ _ _=>by kernel_rfl
theorem acD:(tP.info? 80).map (·.size)=some 1:=by kernel_rfl
theorem DJ:(tP.info? 80).map (λi=>(i.zero,i.size,i.bytes))=some (some (.pointer none),1,8):=by kernel_rfl
theorem fD:(tP.info? 83).map (·.size)=some 2:=by kernel_rfl
theorem X9:fA 83 0 0:=λ_ _ _=>by kernel_rfl
theorem agF:fA 83 1 1:=λ_ _ _=>by kernel_rfl
theorem acE:(tP.info? 84).map (·.size)=some 4:=by kernel_rfl
theorem qb:(tP.info? 85).map (·.size)=some 1:=by kernel_rfl
theorem acF:(tP.info? 87).map (·.size)=some 20:=by kernel_rfl
theorem agG:fA 87 0 0:=λ_ _ _=>by kernel_rfl
theorem agH:fA 87 1 1:=λ_ _ _=>by kernel_rfl
theorem agI:fA 87 2 2:=λ_ _ _=>by kernel_rfl
theorem agJ:fA 87 3 4:=λ_ _ _=>by kernel_rfl
theorem agK:fA 87 4 5:=λ_ _ _=>by kernel_rfl
theorem agL:fA 87 5 13:=λ_ _ _=>by kernel_rfl
theorem agM:fA 87 6 17:=λ_ _ _=>by kernel_rfl
theorem agN:fA 87 7 18:=λ_ _ _=>by kernel_rfl
theorem agO:fA 87 8 19:=λ_ _ _=>by kernel_rfl
theorem acG:(tP.info? 146).map (·.size)=some 1:=by kernel_rfl
theorem amg:(tP.info? 185).map (·.size)=some 42:=by kernel_rfl
theorem agP:fA 185 0 0:=λ_ _ _=>by kernel_rfl
theorem agQ:fA 185 1 41:=λ_ _ _=>by kernel_rfl
theorem amh:(tP.info? 205).map (·.size)=some 41:=by kernel_rfl
theorem agR:fA 205 0 0:=λ_ _ _=>by kernel_rfl
theorem agS:fA 206 0 0:=λ_ _ _=>by kernel_rfl
theorem acH:(tP.info? 67).map (·.size)=some 4:=by kernel_rfl
theorem Ya:fA 67 0 0:=λ_ _ _=>by kernel_rfl
theorem Aq:fA 67 1 1:=λ_ _ _=>by kernel_rfl
theorem Ar:fA 67 2 2:=λ_ _ _=>by kernel_rfl
theorem Ir:fA 67 3 3:=λ_ _ _=>by kernel_rfl
theorem ami:(tP.info? 94).map (·.size)=some 1:=by kernel_rfl
theorem tO:(tP.info? 96).map (·.size)=some 2:=by kernel_rfl
theorem agT:fA 96 0 0:=λ_ _ _=>by kernel_rfl
theorem agU:fA 96 1 1:=λ_ _ _=>by kernel_rfl
theorem xD:(tP.info? 105).map (·.size)=some 23:=by kernel_rfl
theorem Yb:(tP.info? 105).map (λi=>(i.zero,i.size,i.bytes))=some (some (.agg #[iV 0,iV 0,iV 0,iV 0,iV 0,iV 0,iV 0,iV 0,iV 0,iV 0,iV 0,iV 0,iV 0,.slice none 0 0,.bool false,iV 0,iV 0,iV 0,iV 0,iV 0,iV 0,iV 0,iV 0]),23,200):=by kernel_rfl
theorem agV:fA 105 0 0:=λ_ _ _=>by kernel_rfl
theorem agW:fA 105 1 1:=λ_ _ _=>by kernel_rfl
theorem agX:fA 105 2 2:=λ_ _ _=>by kernel_rfl
theorem agY:fA 105 3 3:=λ_ _ _=>by kernel_rfl
theorem agZ:fA 105 4 4:=λ_ _ _=>by kernel_rfl
theorem ag0:fA 105 5 5:=λ_ _ _=>by kernel_rfl
theorem ag1:fA 105 6 6:=λ_ _ _=>by kernel_rfl
theorem ag2:fA 105 7 7:=λ_ _ _=>by kernel_rfl
theorem ag3:fA 105 8 13:=λ_ _ _=>by kernel_rfl
theorem ag4:fA 105 9 14:=λ_ _ _=>by kernel_rfl
theorem adw:fA 105 10 15:=λ_ _ _=>by kernel_rfl
theorem adx:fA 105 11 16:=λ_ _ _=>by kernel_rfl
theorem ko:(tP.info? 124).map (·.size)=some 10:=by kernel_rfl
theorem O5:(tP.info? 124).map (λi=>(i.zero,i.size,i.bytes))=some (some (.agg #[iV 0,iV 0,iV 0,iV 0,iV 0,iV 0,iV 0,iV 0,iV 0,iV 0]),10,80):=by kernel_rfl
theorem ag5:fA 124 0 0:=λ_ _ _=>by kernel_rfl
theorem ag6:fA 124 1 1:=λ_ _ _=>by kernel_rfl
theorem ag7:fA 124 2 2:=λ_ _ _=>by kernel_rfl
theorem ag8:fA 124 3 3:=λ_ _ _=>by kernel_rfl
theorem ag9:fA 124 4 4:=λ_ _ _=>by kernel_rfl
theorem acI:(tP.info? 176).map (·.size)=some 1:=by kernel_rfl
theorem afp (args:Array Value) (w:World):(callFunc 7 args).run tP w= .ok (.enter 7 args) w:=av Tryz.func7 (by kernel_rfl) rfl args w
theorem afq (args:Array Value) (w:World):(callFunc 8 args).run tP w= .ok (.enter 8 args) w:=av Tryz.func8 (by kernel_rfl) rfl args w
theorem x9 (args:Array Value) (w:World):(callFunc 10 args).run tP w= .ok (.enter 10 args) w:=av Tryz.func10 (by kernel_rfl) rfl args w
theorem asG (args:Array Value) (w:World):(callFunc 12 args).run tP w= .ok (.enter 12 args) w:=av Tryz.func12 (by kernel_rfl) rfl args w
theorem asH (args:Array Value) (w:World):(callFunc 14 args).run tP w= .ok (.enter 14 args) w:=av Tryz.func14 (by kernel_rfl) rfl args w
theorem anp (args:Array Value) (w:World):(callFunc 78 args).run tP w= .ok (.enter 78 args) w:=av Tryz.func78 (by kernel_rfl) rfl args w
theorem QU (args:Array Value) (w:World):(callFunc 15 args).run tP w= .ok (.enter 15 args) w:=av Tryz.func15 (by kernel_rfl) rfl args w
theorem Vm (args:Array Value) (w:World):(callFunc 106 args).run tP w= .ok (.enter 106 args) w:=av Tryz.func106 (by kernel_rfl) rfl args w
theorem asI (args:Array Value) (w:World):(callFunc 13 args).run tP w= .ok (.enter 13 args) w:=av Tryz.func13 (by kernel_rfl) rfl args w
theorem asJ (args:Array Value) (w:World):(callFunc 17 args).run tP w= .ok (.enter 17 args) w:=av Tryz.func17 (by kernel_rfl) rfl args w
theorem asK (args:Array Value) (w:World):(callFunc 18 args).run tP w= .ok (.enter 18 args) w:=av Tryz.func18 (by kernel_rfl) rfl args w
theorem asL (args:Array Value) (w:World):(callFunc 19 args).run tP w= .ok (.enter 19 args) w:=av Tryz.func19 (by kernel_rfl) rfl args w
theorem anq (args:Array Value) (w:World):(callFunc 20 args).run tP w= .ok (.enter 20 args) w:=av Tryz.func20 (by kernel_rfl) rfl args w
theorem afr (args:Array Value) (w:World):(callFunc 95 args).run tP w= .ok (.enter 95 args) w:=av Tryz.func95 (by kernel_rfl) rfl args w
theorem zK (args:Array Value) (w:World):(callFunc 21 args).run tP w= .ok (.enter 21 args) w:=av Tryz.func21 (by kernel_rfl) rfl args w
theorem asM (args:Array Value) (w:World):(callFunc 113 args).run tP w= .ok (.enter 113 args) w:=av Tryz.func113 (by kernel_rfl) rfl args w
theorem anr (args:Array Value) (w:World):(callFunc 73 args).run tP w= .ok (.enter 73 args) w:=av Tryz.func73 (by kernel_rfl) rfl args w
theorem asN (args:Array Value) (w:World):(callFunc 114 args).run tP w= .ok (.enter 114 args) w:=av Tryz.func114 (by kernel_rfl) rfl args w
theorem asO (args:Array Value) (w:World):(callFunc 115 args).run tP w= .ok (.enter 115 args) w:=av Tryz.func115 (by kernel_rfl) rfl args w
theorem asP (args:Array Value) (w:World):(callFunc 116 args).run tP w= .ok (.enter 116 args) w:=av Tryz.func116 (by kernel_rfl) rfl args w
theorem asQ (args:Array Value) (w:World):(callFunc 117 args).run tP w= .ok (.enter 117 args) w:=av Tryz.func117 (by kernel_rfl) rfl args w
theorem asR (args:Array Value) (w:World):(callFunc 118 args).run tP w= .ok (.enter 118 args) w:=av Tryz.func118 (by kernel_rfl) rfl args w
theorem asS (args:Array Value) (w:World):(callFunc 119 args).run tP w= .ok (.enter 119 args) w:=av Tryz.func119 (by kernel_rfl) rfl args w
theorem asT (args:Array Value) (w:World):(callFunc 16 args).run tP w= .ok (.enter 16 args) w:=av Tryz.func16 (by kernel_rfl) rfl args w
theorem ant (args:Array Value) (w:World):(callFunc 23 args).run tP w= .ok (.enter 23 args) w:=av Tryz.func23 (by kernel_rfl) rfl args w
theorem asU (args:Array Value) (w:World):(callFunc 24 args).run tP w= .ok (.enter 24 args) w:=av Tryz.func24 (by kernel_rfl) rfl args w
theorem QV (args:Array Value) (w:World):(callFunc 25 args).run tP w= .ok (.enter 25 args) w:=av Tryz.func25 (by kernel_rfl) rfl args w
theorem asV (args:Array Value) (w:World):(callFunc 26 args).run tP w= .ok (.enter 26 args) w:=av Tryz.func26 (by kernel_rfl) rfl args w
theorem yc (args:Array Value) (w:World):(callFunc 27 args).run tP w= .ok (.enter 27 args) w:=av Tryz.func27 (by kernel_rfl) rfl args w
theorem asW (args:Array Value) (w:World):(callFunc 28 args).run tP w= .ok (.enter 28 args) w:=av Tryz.func28 (by kernel_rfl) rfl args w
theorem ajF (args:Array Value) (w:World):(callFunc 29 args).run tP w= .ok (.enter 29 args) w:=av Tryz.func29 (by kernel_rfl) rfl args w
theorem ajG (args:Array Value) (w:World):(callFunc 30 args).run tP w= .ok (.enter 30 args) w:=av Tryz.func30 (by kernel_rfl) rfl args w
theorem asX (args:Array Value) (w:World):(callFunc 31 args).run tP w= .ok (.enter 31 args) w:=av Tryz.func31 (by kernel_rfl) rfl args w
theorem asY (args:Array Value) (w:World):(callFunc 32 args).run tP w= .ok (.enter 32 args) w:=av Tryz.func32 (by kernel_rfl) rfl args w
theorem asZ (args:Array Value) (w:World):(callFunc 33 args).run tP w= .ok (.enter 33 args) w:=av Tryz.func33 (by kernel_rfl) rfl args w
theorem as0 (args:Array Value) (w:World):(callFunc 34 args).run tP w= .ok (.enter 34 args) w:=av Tryz.func34 (by kernel_rfl) rfl args w
theorem ajH (args:Array Value) (w:World):(callFunc 35 args).run tP w= .ok (.enter 35 args) w:=av Tryz.func35 (by kernel_rfl) rfl args w
theorem as1 (args:Array Value) (w:World):(callFunc 36 args).run tP w= .ok (.enter 36 args) w:=av Tryz.func36 (by kernel_rfl) rfl args w
theorem anu (args:Array Value) (w:World):(callFunc 109 args).run tP w= .ok (.enter 109 args) w:=av Tryz.func109 (by kernel_rfl) rfl args w
theorem as2 (args:Array Value) (w:World):(callFunc 120 args).run tP w= .ok (.enter 120 args) w:=av Tryz.func120 (by kernel_rfl) rfl args w
theorem anv (args:Array Value) (w:World):(callFunc 121 args).run tP w= .ok (.enter 121 args) w:=av Tryz.func121 (by kernel_rfl) rfl args w
theorem anw (args:Array Value) (w:World):(callFunc 122 args).run tP w= .ok (.enter 122 args) w:=av Tryz.func122 (by kernel_rfl) rfl args w
theorem anx (args:Array Value) (w:World):(callFunc 123 args).run tP w= .ok (.enter 123 args) w:=av Tryz.func123 (by kernel_rfl) rfl args w
theorem anz (args:Array Value) (w:World):(callFunc 124 args).run tP w= .ok (.enter 124 args) w:=av Tryz.func124 (by kernel_rfl) rfl args w
theorem as3 (args:Array Value) (w:World):(callFunc 125 args).run tP w= .ok (.enter 125 args) w:=av Tryz.func125 (by kernel_rfl) rfl args w
theorem as4 (args:Array Value) (w:World):(callFunc 126 args).run tP w= .ok (.enter 126 args) w:=av Tryz.func126 (by kernel_rfl) rfl args w
theorem as5 (args:Array Value) (w:World):(callFunc 127 args).run tP w= .ok (.enter 127 args) w:=av Tryz.func127 (by kernel_rfl) rfl args w
theorem as6 (args:Array Value) (w:World):(callFunc 22 args).run tP w= .ok (.enter 22 args) w:=av Tryz.func22 (by kernel_rfl) rfl args w
theorem anA (args:Array Value) (w:World):(callFunc 37 args).run tP w= .ok (.enter 37 args) w:=av Tryz.func37 (by kernel_rfl) rfl args w
theorem anB (args:Array Value) (w:World):(callFunc 38 args).run tP w= .ok (.enter 38 args) w:=av Tryz.func38 (by kernel_rfl) rfl args w
theorem F8 (args:Array Value) (w:World):(callFunc 39 args).run tP w= .ok (.enter 39 args) w:=av Tryz.func39 (by kernel_rfl) rfl args w
theorem Iu (args:Array Value) (w:World):(callFunc 40 args).run tP w= .ok (.enter 40 args) w:=av Tryz.func40 (by kernel_rfl) rfl args w
theorem QW (args:Array Value) (w:World):(callFunc 41 args).run tP w= .ok (.enter 41 args) w:=av Tryz.func41 (by kernel_rfl) rfl args w
theorem Zq (args:Array Value) (w:World):(callFunc 42 args).run tP w= .ok (.enter 42 args) w:=av Tryz.func42 (by kernel_rfl) rfl args w
theorem ap3 (args:Array Value) (w:World):(callFunc 43 args).run tP w= .ok (.enter 43 args) w:=av Tryz.func43 (by kernel_rfl) rfl args w
theorem ap4 (args:Array Value) (w:World):(callFunc 44 args).run tP w= .ok (.enter 44 args) w:=av Tryz.func44 (by kernel_rfl) rfl args w
theorem aiR (args:Array Value) (w:World):(callFunc 45 args).run tP w= .ok (.enter 45 args) w:=av Tryz.func45 (by kernel_rfl) rfl args w
theorem yX (args:Array Value) (w:World):(callFunc 46 args).run tP w= .ok (.enter 46 args) w:=av Tryz.func46 (by kernel_rfl) rfl args w
theorem abR (args:Array Value) (w:World):(callFunc 47 args).run tP w= .ok (.enter 47 args) w:=av Tryz.func47 (by kernel_rfl) rfl args w
theorem ap5 (args:Array Value) (w:World):(callFunc 48 args).run tP w= .ok (.enter 48 args) w:=av Tryz.func48 (by kernel_rfl) rfl args w
theorem ap6 (args:Array Value) (w:World):(callFunc 49 args).run tP w= .ok (.enter 49 args) w:=av Tryz.func49 (by kernel_rfl) rfl args w
theorem ap7 (args:Array Value) (w:World):(callFunc 50 args).run tP w= .ok (.enter 50 args) w:=av Tryz.func50 (by kernel_rfl) rfl args w
theorem Ie (args:Array Value) (w:World):(callFunc 51 args).run tP w= .ok (.enter 51 args) w:=av Tryz.func51 (by kernel_rfl) rfl args w
theorem ap8 (args:Array Value) (w:World):(callFunc 52 args).run tP w= .ok (.enter 52 args) w:=av Tryz.func52 (by kernel_rfl) rfl args w
theorem ap9 (args:Array Value) (w:World):(callFunc 53 args).run tP w= .ok (.enter 53 args) w:=av Tryz.func53 (by kernel_rfl) rfl args w
theorem Me (args:Array Value) (w:World):(callFunc 54 args).run tP w= .ok (.enter 54 args) w:=av Tryz.func54 (by kernel_rfl) rfl args w
theorem aiS (args:Array Value) (w:World):(callFunc 55 args).run tP w= .ok (.enter 55 args) w:=av Tryz.func55 (by kernel_rfl) rfl args w
theorem oU (args:Array Value) (w:World):(callFunc 57 args).run tP w= .ok (.enter 57 args) w:=av Tryz.func57 (by kernel_rfl) rfl args w
theorem aiT (args:Array Value) (w:World):(callFunc 58 args).run tP w= .ok (.enter 58 args) w:=av Tryz.func58 (by kernel_rfl) rfl args w
theorem aqa (args:Array Value) (w:World):(callFunc 59 args).run tP w= .ok (.enter 59 args) w:=av Tryz.func59 (by kernel_rfl) rfl args w
theorem aqb (args:Array Value) (w:World):(callFunc 60 args).run tP w= .ok (.enter 60 args) w:=av Tryz.func60 (by kernel_rfl) rfl args w
theorem aqc (args:Array Value) (w:World):(callFunc 61 args).run tP w= .ok (.enter 61 args) w:=av Tryz.func61 (by kernel_rfl) rfl args w
theorem aqd (args:Array Value) (w:World):(callFunc 62 args).run tP w= .ok (.enter 62 args) w:=av Tryz.func62 (by kernel_rfl) rfl args w
theorem aqe (args:Array Value) (w:World):(callFunc 63 args).run tP w= .ok (.enter 63 args) w:=av Tryz.func63 (by kernel_rfl) rfl args w
theorem Vn (args:Array Value) (w:World):(callFunc 65 args).run tP w= .ok (.enter 65 args) w:=av Tryz.func65 (by kernel_rfl) rfl args w
theorem qV (args:Array Value) (w:World):(callFunc 66 args).run tP w= .ok (.enter 66 args) w:=av Tryz.func66 (by kernel_rfl) rfl args w
theorem aqf (args:Array Value) (w:World):(callFunc 67 args).run tP w= .ok (.enter 67 args) w:=av Tryz.func67 (by kernel_rfl) rfl args w
theorem Au (args:Array Value) (w:World):(callFunc 68 args).run tP w= .ok (.enter 68 args) w:=av Tryz.func68 (by kernel_rfl) rfl args w
theorem aqg (args:Array Value) (w:World):(callFunc 69 args).run tP w= .ok (.enter 69 args) w:=av Tryz.func69 (by kernel_rfl) rfl args w
theorem aqh (args:Array Value) (w:World):(callFunc 70 args).run tP w= .ok (.enter 70 args) w:=av Tryz.func70 (by kernel_rfl) rfl args w
theorem Vo (args:Array Value) (w:World):(callFunc 74 args).run tP w= .ok (.enter 74 args) w:=av Tryz.func74 (by kernel_rfl) rfl args w
theorem E9 (args:Array Value) (w:World):(callFunc 75 args).run tP w= .ok (.enter 75 args) w:=av Tryz.func75 (by kernel_rfl) rfl args w
theorem aiU (args:Array Value) (w:World):(callFunc 77 args).run tP w= .ok (.enter 77 args) w:=av Tryz.func77 (by kernel_rfl) rfl args w
theorem P6 (args:Array Value) (w:World):(callFunc 81 args).run tP w= .ok (.enter 81 args) w:=av Tryz.func81 (by kernel_rfl) rfl args w
theorem abS (args:Array Value) (w:World):(callFunc 82 args).run tP w= .ok (.enter 82 args) w:=av Tryz.func82 (by kernel_rfl) rfl args w
theorem aqi (args:Array Value) (w:World):(callFunc 83 args).run tP w= .ok (.enter 83 args) w:=av Tryz.func83 (by kernel_rfl) rfl args w
theorem abT (args:Array Value) (w:World):(callFunc 84 args).run tP w= .ok (.enter 84 args) w:=av Tryz.func84 (by kernel_rfl) rfl args w
theorem Vp (args:Array Value) (w:World):(callFunc 85 args).run tP w= .ok (.enter 85 args) w:=av Tryz.func85 (by kernel_rfl) rfl args w
theorem aqj (args:Array Value) (w:World):(callFunc 86 args).run tP w= .ok (.enter 86 args) w:=av Tryz.func86 (by kernel_rfl) rfl args w
theorem aqk (args:Array Value) (w:World):(callFunc 87 args).run tP w= .ok (.enter 87 args) w:=av Tryz.func87 (by kernel_rfl) rfl args w
theorem aiV (args:Array Value) (w:World):(callFunc 88 args).run tP w= .ok (.enter 88 args) w:=av Tryz.func88 (by kernel_rfl) rfl args w
theorem aql (args:Array Value) (w:World):(callFunc 89 args).run tP w= .ok (.enter 89 args) w:=av Tryz.func89 (by kernel_rfl) rfl args w
theorem aiW (args:Array Value) (w:World):(callFunc 90 args).run tP w= .ok (.enter 90 args) w:=av Tryz.func90 (by kernel_rfl) rfl args w
theorem aqm (args:Array Value) (w:World):(callFunc 91 args).run tP w= .ok (.enter 91 args) w:=av Tryz.func91 (by kernel_rfl) rfl args w
theorem aiX (args:Array Value) (w:World):(callFunc 92 args).run tP w= .ok (.enter 92 args) w:=av Tryz.func92 (by kernel_rfl) rfl args w
theorem aqn (args:Array Value) (w:World):(callFunc 93 args).run tP w= .ok (.enter 93 args) w:=av Tryz.func93 (by kernel_rfl) rfl args w
theorem Ig (args:Array Value) (w:World):(callFunc 94 args).run tP w= .ok (.enter 94 args) w:=av Tryz.func94 (by kernel_rfl) rfl args w
theorem Vq (args:Array Value) (w:World):(callFunc 98 args).run tP w= .ok (.enter 98 args) w:=av Tryz.func98 (by kernel_rfl) rfl args w
theorem P7 (args:Array Value) (w:World):(callFunc 99 args).run tP w= .ok (.enter 99 args) w:=av Tryz.func99 (by kernel_rfl) rfl args w
theorem aqo (args:Array Value) (w:World):(callFunc 100 args).run tP w= .ok (.enter 100 args) w:=av Tryz.func100 (by kernel_rfl) rfl args w
theorem aqp (args:Array Value) (w:World):(callFunc 101 args).run tP w= .ok (.enter 101 args) w:=av Tryz.func101 (by kernel_rfl) rfl args w
theorem Vr (args:Array Value) (w:World):(callFunc 102 args).run tP w= .ok (.enter 102 args) w:=av Tryz.func102 (by kernel_rfl) rfl args w
theorem aqr (args:Array Value) (w:World):(callFunc 103 args).run tP w= .ok (.enter 103 args) w:=av Tryz.func103 (by kernel_rfl) rfl args w
theorem aqs (args:Array Value) (w:World):(callFunc 104 args).run tP w= .ok (.enter 104 args) w:=av Tryz.func104 (by kernel_rfl) rfl args w
theorem aqt (args:Array Value) (w:World):(callFunc 107 args).run tP w= .ok (.enter 107 args) w:=av Tryz.func107 (by kernel_rfl) rfl args w
theorem aiY (args:Array Value) (w:World):(callFunc 108 args).run tP w= .ok (.enter 108 args) w:=av Tryz.func108 (by kernel_rfl) rfl args w
theorem wW (args:Array Value) (w:World):(callFunc 111 args).run tP w= .ok (.enter 111 args) w:=av Tryz.func111 (by kernel_rfl) rfl args w
theorem mixed:tP.follows .mixedOrders=true:=by kernel_rfl
end
section
open ChangeShapes WideShapes ChangeAt RowKit
section
variable {P:Program} {N:Nat} {l:Slots} {o:Oper} {w w' w0:World} {B:Nat} {fs:List Fact}
theorem Yc {f:FuncId} {first cap us:List Value} {x:Operand} {xs:List Operand} {ts:Array TypeId} {vs:List Value} (ho:o.op= .call { callee:= .value x,args:=xs.toArray,argTypes:=ts }) (hv:ev l x=some (.func (.func f) first.toArray cap.toArray))
  (Ms: ∀ args w,(callFunc f args).run P w= .ok (.enter f args) w) (hx:PN l xs vs) (hu:first++vs++cap=us):Enter P N l o w f us:=λa F=>by
 subst hu;have h1:=F.evs hx;unfold execOp;simp only [ho,resolve,F.ev hv,Deferred.ofValue,invoke,Sem.run_bind,Sem.run_pure,Result.andThen_ok,List.map_toArray,h1];simp [Ms]
theorem KF {f:Fn} {xs ys:List Operand} {vs us:List Value} (ho:o.op= .makeFunc f xs.toArray ys.toArray) (hx:PN l xs vs) (hy:PN l ys us):gW P N l o w (.func f vs.toArray us.toArray):=λa F=>by
 have h1:=F.evs hx;have h2:=F.evs hy;unfold execOp;simp only [ho,List.map_toArray,h1,h2];rfl
theorem acJ {b off s n:Nat} {row:Array Value} {t:TypeId} {xs:List Value} (i:Nat) (S:St B w0 w fs) (hi:fs[i]? =some (.blk b row t)) (hl:xs.length=n*s) (hx: ∀ (j:Nat) (u:Value),xs[j]? =some u->row[off+j]? =some u):Rd w w.heap.size s (some ⟨b,off,none⟩) n xs:=
 ⟨hl,λ_=>⟨b,off,rfl,S.lt i hi,λj u hu=>S.cl i hi (hx j u hu)⟩⟩
theorem Em {base:Nat} {e:TypeId} {size n c:Nat} {A:Option Addr} {xs:List Value} (h:w.ownsRow base e size (.slice A n c) n xs) (hn:0<n): ∃ g,A=some ⟨g,0,none⟩:=by
 rcases h.2 with ⟨_,h0⟩ | ⟨g,cap,cur,hv,_⟩
 ·omega
 exact ⟨g,by injection hv⟩
theorem St.abU {e e':TypeId} {s s':Nat} {g n c n' c':Nat} {xs xs':List Value} (i:Nat) (S:St B w0 w fs) (hi:fs[i]? =some (.own e s (.slice (some ⟨g,0,none⟩) n c) n xs)) (hu:uj w g w') (ho:w'.ownsRow B e' s' (.slice (some ⟨g,0,none⟩) n' c') n' xs'):
  St B w0 w' (fs.set i (.own e' s' (.slice (some ⟨g,0,none⟩) n' c') n' xs')):=
 S.turn i hi (hu.next S.low (Fact.mg (S.all i _ hi) rfl).1) (Nat.le_of_eq hu.size.symm) (λk _ hk=>hu.block k (λe=>hk (by rw [e];rfl))) ho (λk hk=> .inl hk)
theorem JQ {α:Type} {enc:α->List Value} {sz:Nat} (hsz: ∀ x,(enc x).length=sz): ∀ (k:Nat) (l:List α),(l.flatMap enc).take (k*sz)++(l.flatMap enc).drop ((k+1)*sz)=(l.eraseIdx k).flatMap enc
 | 0,[]=>by simp
 | 0,x::l=>by rw [List.flatMap_cons,Nat.zero_mul,List.take_zero,List.nil_append,Nat.zero_add,Nat.one_mul,List.drop_left' (hsz x)];rfl
 | k+1,[]=>by simp
 | k+1,x::l=>by
  rw [List.eraseIdx_cons_succ,List.flatMap_cons,List.flatMap_cons,<-JQ hsz k l,Nat.succ_mul k,Nat.succ_mul (k+1),Nat.add_comm _ sz,Nat.add_comm _ sz,List.take_append,List.drop_append,hsz x];rw [List.take_of_length_le (by rw [hsz x];omega),List.drop_of_length_le (by rw [hsz x];omega),Nat.add_sub_cancel_left,Nat.add_sub_cancel_left,List.nil_append,List.append_assoc,Nat.succ_mul k,Nat.add_comm sz]
end
theorem aG {B:Nat} {w0 w:World} {fs:List Fact} {s:Nat} (S:St B w0 w fs):St B w0 w (.cB s none 0 []::fs):=S.cons ⟨Rd.none_,λa h=>by cases h⟩ λk hk=>by cases hk
end
section
open ChangeShapes WideShapes RowKit
inductive Pick (l:Slots):List Nat->Slots->Prop
 | z:Pick l [] []
 | s {k:Nat} {ks:List Nat} {v:Value} {l':Slots}:lk l k=some v->Pick l ks l'->Pick l (k::ks) ((k,v)::l')
theorem Pick.sub {l:Slots} {ks:List Nat} {l':Slots} (h:Pick l ks l'):Lc l l':=by
 induction h with
 | z=>exact trivial
 | s h _ ih=>exact ⟨h,ih⟩
inductive iJ (f:Fact):List Fact->Nat->List Fact->Prop
 | z {g:Fact} {fs:List Fact}:iJ f (g::fs) 0 (f::fs)
 | s {g:Fact} {fs fs':List Fact} {i:Nat}:iJ f fs i fs'->iJ f (g::fs) (i+1) (g::fs')
theorem iJ.eq {f:Fact} {fs fs':List Fact} {i:Nat} (h:iJ f fs i fs'):fs.set i f=fs':=by
 induction h with
 | z=>rfl
 | s _ ih=>rw [List.set_cons_succ,ih]
def aiZ:List Nat->List Fact->List Fact
 | [],fs=>fs
 | i::is,fs=>aiZ is (fs.eraseIdx i)
theorem St.pJ {B:Nat} {w0 w:World}: ∀ {fs:List Fact} (_:St B w0 w fs) (is:List Nat),St B w0 w (aiZ is fs)
 | _,S,[]=>S
 | _,S,i::is=>(St.del i S).pJ is
theorem KG {α:Type} {enc:α->List Value} {w:World} {B sz n:Nat} {A:Option Addr} {l:List α} (k:Nat) (h:Rd w B sz A n (l.flatMap enc)) (hk:k<n) (hs: ∀ x,(enc x).length=sz:=by exact λ_=>rfl) (hz:Nat.blt 0 sz=true:=by exact rfl): ∃ x,l[k]? =some x:=by
 have h1:=h.1;rw [iG hs] at h1;have h2:l.length=n:=Nat.eq_of_mul_eq_mul_right (Nat.le_of_ble_eq_true hz) h1;exact ⟨_,List.getElem?_eq_getElem (by omega)⟩
section
variable {P:Program} {N:Nat} {l l':Slots} {w w' w0:World} {ops:Array Oper} {o:Oper} {rest:List Oper} {Q:Exit->Act->World->Prop} {d B:Nat} {v p:Value} {fs fs':List Fact} {ex:Exit}
theorem qk (ks:List Nat) (h:wQ N Q .normal l' w) (hp:Pick l ks l':=by repeat' first | exact Pick.z | apply Pick.s rfl):wL P N ops Q [] l w:=acr (bT hp.sub h)
theorem cw {c:Code} (ks:List Nat) (h:wC P N c Q l' w) (hp:Pick l ks l':=by repeat' first | exact Pick.z | apply Pick.s rfl):wC P N c Q l w:=bC hp.sub h
section
variable {x:Operand}
theorem ym (ho:o.op= .move x:=by exact rfl) (hx:ev l x=some v:=by exact rfl):gW P N l o w v:=acs ho hx
theorem ya (ho:o.op= .assign x:=by exact rfl) (hx:ev l x=some v:=by exact rfl):gW P N l o w v:=RF ho hx
theorem yx {k:Nat} {vs:Array Value} (ho:o.op= .extract x k:=by exact rfl) (hx:ev l x=some (.tuple vs):=by exact rfl) (hk:vs[k]? =some v:=by exact rfl):gW P N l o w v:=Zm ho hx hk
theorem ypT {c y:Operand} (ho:o.op= .pick c x y:=by exact rfl) (hc:ev l c=some (.bool true):=by exact rfl) (hx:ev l x=some v:=by exact rfl):gW P N l o w v:=ads ho hc hx
theorem ypF {c y:Operand} (ho:o.op= .pick c x y:=by exact rfl) (hc:ev l c=some (.bool false):=by exact rfl) (hx:ev l y=some v:=by exact rfl):gW P N l o w v:=adt ho hc hx
theorem yno {t:TypeId} {b c:Bool} (ho:o.op= .unOp .not t x:=by exact rfl) (hx:ev l x=some (.bool b):=by exact rfl) (hb:(!b)=c:=by exact rfl):gW P N l o w (.bool c):=hb▸acu ho hx apS
theorem vR {s:TypeId} {f b o0:Nat} {g:Nat->Nat} (o':Nat) (hf: ∀ (b o:Nat) (w:World),(Instr.fieldAt s (.pointer (some ⟨b,o,none⟩)) f).run P w= .ok (.pointer (some ⟨b,g o,none⟩)) w) (ho:o.op= .fieldAddr s x f:=by exact rfl)
  (hx:ev l x=some (.pointer (some ⟨b,o0,none⟩)):=by exact rfl) (he:g o0=o':=by exact rfl):gW P N l o w (.pointer (some ⟨b,o',none⟩)):=he▸GZ ho hx (hf b o0 w)
theorem jl {t:TypeId} (ho:o.op= .build t ([]:List (Nat×Operand)).toArray:=by exact rfl) (hr:(Instr.build t ([]:List (Nat×Value)).toArray).run P w= .ok (.agg #[iV 0,iV 0,iV 0,iV 0,iV 0,.slice none 0 0]) w:=by kernel_rfl):gW P N l o w (.agg #[iV 0,iV 0,iV 0,iV 0,iV 0,.slice none 0 0]):=DC (vs:=[]) ho trivial hr
theorem yz {t:TypeId} (ho:o.op= .build t ([]:List (Nat×Operand)).toArray:=by exact rfl) (hr:(Instr.build t ([]:List (Nat×Value)).toArray).run P w= .ok v w:=by kernel_rfl):gW P N l o w v:=DC (vs:=[]) ho trivial hr
end
section
variable {t tt:TypeId} {kd:IntKind} {xo yo:Operand} {x y:Int}
theorem Cq (ho:o.op= .binOp .lss t xo yo tt:=by exact rfl) (hx:ev l xo=some (.int kd x):=by exact rfl) (hy:ev l yo=some (.int kd y):=by exact rfl) (h:x<y:=by decide):gW P N l o w (.bool true):=aL ho hx hy (OP h)
theorem ai0 (ho:o.op= .binOp .lss t xo yo tt:=by exact rfl) (hx:ev l xo=some (.int kd x):=by exact rfl) (hy:ev l yo=some (.int kd y):=by exact rfl) (h: ¬ x<y:=by decide):gW P N l o w (.bool false):=aL ho hx hy (OQ h)
theorem ai1 (h:x=y) (ho:o.op= .binOp .eql t xo yo tt:=by exact rfl) (hx:ev l xo=some (.int kd x):=by exact rfl) (hy:ev l yo=some (.int kd y):=by exact rfl):gW P N l o w (.bool true):=aL ho hx hy (OT h)
theorem abV (h: ¬ x=y) (ho:o.op= .binOp .eql t xo yo tt:=by exact rfl) (hx:ev l xo=some (.int kd x):=by exact rfl) (hy:ev l yo=some (.int kd y):=by exact rfl):gW P N l o w (.bool false):=aL ho hx hy (OU h)
theorem aqu (ho:o.op= .binOp .neq t xo yo tt:=by exact rfl) (hx:ev l xo=some (.int kd x):=by exact rfl) (hy:ev l yo=some (.int kd y):=by exact rfl) (h:x=y:=by decide):gW P N l o w (.bool false):=aL ho hx hy (Io h)
end
section
variable {C:World->Prop} {Qa:Act->Prop} {j:Nat} {t:Nat} {u:Value} {x:Operand}
theorem vv (hy:gW P N l o w v) (h:wL P N ops Q rest ((d,v)::l) w) (hw:o.guard=none:=by exact rfl) (hd:o.dst=some d:=by exact rfl) (hN:Nat.blt d N=true:=by exact rfl):wL P N ops Q (o::rest) l w:=EX (wn hw) hd hN hy h
theorem vm (h:wL P N ops Q rest ((d,v)::l) w) (hw:o.guard=none:=by exact rfl) (hd:o.dst=some d:=by exact rfl) (hN:Nat.blt d N=true:=by exact rfl) (ho:o.op= .move x:=by exact rfl) (hx:ev l x=some v:=by exact rfl):wL P N ops Q (o::rest) l w:=EX (wn hw) hd hN (acs ho hx) h
theorem va (h:wL P N ops Q rest ((d,v)::l) w) (hw:o.guard=none:=by exact rfl) (hd:o.dst=some d:=by exact rfl) (hN:Nat.blt d N=true:=by exact rfl) (ho:o.op= .assign x:=by exact rfl) (hx:ev l x=some v:=by exact rfl):wL P N ops Q (o::rest) l w:=EX (wn hw) hd hN (RF ho hx) h
theorem vg {b:Bool} (hy:gW P N l o w v) (h:wL P N ops Q rest ((d,v)::l) w) (hg:o.guard=some (j,b):=by exact rfl) (hj:(ops[j]?).bind (·.dst)=some t:=by exact rfl) (hv:lk l t=some u:=by exact rfl) (hr:(yl u==some b)=true:=by exact rfl)
  (hd:o.dst=some d:=by exact rfl) (hN:Nat.blt d N=true:=by exact rfl):wL P N ops Q (o::rest) l w:=EX (wg hg hj hv hr) hd hN hy h
theorem vs {b:Bool} (h:wL P N ops Q rest ((d,undef)::l) w) (hg:o.guard=some (j,b):=by exact rfl) (hj:(ops[j]?).bind (·.dst)=some t:=by exact rfl) (hv:lk l t=some u:=by exact rfl) (hr:(yl u==some b)=false:=by exact rfl) (hd:o.dst=some d:=by exact rfl) (hN:Nat.blt d N=true:=by exact rfl):wL P N ops Q (o::rest) l w:=XU (wg hg hj hv hr) hd hN h
theorem uv (hy: ∀ w,C w->gW P N l o w v) (h:wU P N ops C Qa rest ((d,v)::l)) (hw:o.guard=none:=by exact rfl) (hd:o.dst=some d:=by exact rfl) (hN:Nat.blt d N=true:=by exact rfl):wU P N ops C Qa (o::rest) l:=Np (wn hw) hd hN hy h
theorem ug {b:Bool} (hy: ∀ w,C w->gW P N l o w v) (h:wU P N ops C Qa rest ((d,v)::l)) (hg:o.guard=some (j,b):=by exact rfl) (hj:(ops[j]?).bind (·.dst)=some t:=by exact rfl) (hv:lk l t=some u:=by exact rfl) (hr:(yl u==some b)=true:=by exact rfl)
  (hd:o.dst=some d:=by exact rfl) (hN:Nat.blt d N=true:=by exact rfl):wU P N ops C Qa (o::rest) l:=Np (wg hg hj hv hr) hd hN hy h
theorem ak {n:Nat} {listed listed':Array Bool} (i:Nat) (hi:ops[i]? =some o) (hS:C w) (hy: ∀ w,C w->gW P N l o w v) (h:wA P N ops Q C n listed' ((d,v)::l) w) (hs:Region.noSelect ops=true:=by kernel_rfl) (hf:Region.free .any ops listed i=true:=by kernel_rfl)
  (hr:(Region.ready .any ops listed).contains i=true:=by kernel_rfl) (hl:listed.setIfInBounds i true=listed':=by exact rfl) (hw:o.guard=none:=by exact rfl) (hd:o.dst=some d:=by exact rfl) (hN:Nat.blt d N=true:=by exact rfl):wA P N ops Q C (n+1) listed l w:=jg hi hs hf hr hS hl (wn hw) hd hN hy h
theorem gk {n m:Nat} {listed listed':Array Bool} (i:Nat) (hi:ops[i]? =some o) (hS:C w) (hy: ∀ w,C w->gW P N l o w v) (h:wG P N ops Q C n m listed' ((d,v)::l) w) (hs:Region.noSelect ops=true:=by kernel_rfl) (hf:Region.free .any ops listed i=true:=by kernel_rfl)
  (hr:(Region.ready .any ops listed).contains i=true:=by kernel_rfl) (hnl:listed.getD n true=false:=by exact rfl) (hni:xC ops n i=true:=by kernel_rfl) (hne:Nat.beq n i=false:=by exact rfl) (hl:listed.setIfInBounds i true=listed':=by exact rfl) (hw:o.guard=none:=by exact rfl)
  (hd:o.dst=some d:=by exact rfl) (hN:Nat.blt d N=true:=by exact rfl):wG P N ops Q C n (m+1) listed l w:=DI hi hs hf hr hnl hni hne hS hl (wn hw) hd hN hy h
theorem aW {n:Nat} {listed:Array Bool} (r:Nat) (h:wK P N ops Q C n r listed l w) (hr:Region.ready .any ops listed=[r]:=by kernel_rfl):wA P N ops Q C (n+1) listed l w:=alk hr h
end
section
variable {b m f:Nat} {row row' cs:Array Value} {t ty:TypeId} {x y:Operand} {ds:TypeDesc} {z u:Value}
theorem sa (i:Nat) (S:St B w0 w fs) (hz:(P.info? ty).map (·.size)=some m) (h: ∀ w',St B w0 w' fs'->wL P N ops Q rest l w') (hw:o.guard=none:=by exact rfl) (hd:o.dst=none:=by exact rfl) (ho:o.op= .store ty x y:=by exact rfl)
  (hx:ev l x=some (.pointer (some ⟨b,0,none⟩)):=by exact rfl) (hy:ev l y=some v:=by exact rfl) (hi:fs[i]? =some (.blk b row t):=by exact rfl) (hv:v.cells=cs:=by exact rfl) (hm:cs.size=m:=by exact rfl)
  (h1:cs.toList.all (·.oneCell')=true:=by exact rfl) (hr:Nat.ble m row.size=true:=by exact rfl) (hs:row.size=cs.size:=by exact rfl) (hf:iJ (.blk b cs t) fs i fs':=by repeat' first | exact iJ.z | apply iJ.s):wL P N ops Q (o::rest) l w:=
 Co i S (wn hw) hd ho hx hy hi hv hz hm (bX h1) (by rw [Nat.zero_add];exact Nat.le_of_ble_eq_true hr) (qU hs) hf.eq h
theorem sr {off:Nat} {row':Array Value} (i:Nat) (S:St B w0 w fs) (hz:(P.info? ty).map (·.size)=some m) (h: ∀ w',St B w0 w' fs'->wL P N ops Q rest l w') (hw:o.guard=none:=by exact rfl) (hd:o.dst=none:=by exact rfl) (ho:o.op= .store ty x y:=by exact rfl)
  (hx:ev l x=some (.pointer (some ⟨b,off,none⟩)):=by exact rfl) (hy:ev l y=some v:=by exact rfl) (hi:fs[i]? =some (.blk b row t):=by exact rfl) (hv:v.cells=cs:=by exact rfl) (hm:cs.size=m:=by exact rfl)
  (h1:cs.toList.all (·.oneCell')=true:=by exact rfl) (hr:Nat.ble (off+m) row.size=true:=by exact rfl) (hs:cu row off cs.toList=row':=by exact rfl) (hf:iJ (.blk b row' t) fs i fs':=by repeat' first | exact iJ.z | apply iJ.s):wL P N ops Q (o::rest) l w:=
 Co i S (wn hw) hd ho hx hy hi hv hz hm (bX h1) (Nat.le_of_ble_eq_true hr) hs hf.eq h
theorem sn {C:World->Prop} {n:Nat} {listed listed':Array Bool} (j:Nat) (hi':ops[j]? =some o) (i:Nat) (S:St B w0 w fs) (hz:(P.info? ty).map (·.size)=some m) (h: ∀ w',St B w0 w' fs'->C w'/\wA P N ops Q C n listed' l w') (hl:listed.setIfInBounds j true=listed':=by exact rfl)
  (hw:o.guard=none:=by exact rfl) (hd:o.dst=none:=by exact rfl) (ho:o.op= .store ty x y:=by exact rfl) (hx:ev l x=some (.pointer (some ⟨b,0,none⟩)):=by exact rfl) (hy:ev l y=some v:=by exact rfl) (hi:fs[i]? =some (.blk b row t):=by exact rfl) (hv:v.cells=cs:=by exact rfl)
  (hm:cs.size=m:=by exact rfl) (h1:cs.toList.all (·.oneCell')=true:=by exact rfl) (hr:Nat.ble m row.size=true:=by exact rfl) (hs:row.size=cs.size:=by exact rfl) (hf:iJ (.blk b cs t) fs i fs':=by repeat' first | exact iJ.z | apply iJ.s):wK P N ops Q C n j listed l w:=
 uo hi' hl i S (wn hw) hd ho hx hy hi hv hz hm (bX h1) (by rw [Nat.zero_add];exact Nat.le_of_ble_eq_true hr) (qU hs) hf.eq h
theorem yg {vs:List Value} {R:Ending->World->Prop} {xs:List Operand} {ts:Array TypeId} {j tg:Nat} {bb:Bool} (Ms: ∀ args w,(callFunc f args).run P w= .ok (.enter f args) w) (hc:Calls P f vs.toArray w R) (h: ∀ e w',R e w'-> ∃ v,e= .returned v/\wL P N ops Q rest ((d,v)::l) w')
  (hg:o.guard=some (j,bb):=by exact rfl) (hj:(ops[j]?).bind (·.dst)=some tg:=by exact rfl) (hv:lk l tg=some u:=by exact rfl) (hr:(yl u==some bb)=true:=by exact rfl) (hd:o.dst=some d:=by exact rfl) (hN:Nat.blt d N=true:=by exact rfl)
  (ho:o.op= .call { callee:= .value (.func f),args:=xs.toArray,argTypes:=ts }:=by exact rfl) (hx:PN l xs vs:=by repeat' first | exact trivial | refine ⟨rfl,?_⟩):wL P N ops Q (o::rest) l w:=Im (wg hg hj hv hr) hd hN (iB ho Ms hx) hc h
theorem nb {row:Array Value} (S:St B w0 w fs) (h: ∀ b w',St B w0 w' (.blk b row t::fs)->wL P N ops Q rest ((d,.pointer (some ⟨b,0,none⟩))::l) w') (hw:o.guard=none:=by exact rfl) (hd:o.dst=some d:=by exact rfl)
  (hN:Nat.blt d N=true:=by exact rfl) (ho:o.op= .box t x:=by exact rfl) (hx:ev l x=some p:=by exact rfl) (hc:p.cells=row:=by exact rfl):wL P N ops Q (o::rest) l w:=lN (V:=λb=> .pointer (some ⟨b,0,none⟩)) S (wn hw) hd hN (abL ho hx hc) h
theorem dH {vs:List Value} {R:Ending->World->Prop} {xs:List Operand} {ts:Array TypeId} (Ms: ∀ args w,(callFunc f args).run P w= .ok (.enter f args) w) (hc:Calls P f vs.toArray w R) (h: ∀ e w',R e w'-> ∃ v,e= .returned v/\wL P N ops Q rest ((d,v)::l) w')
  (hw:o.guard=none:=by exact rfl) (hd:o.dst=some d:=by exact rfl) (hN:Nat.blt d N=true:=by exact rfl) (ho:o.op= .call { callee:= .value (.func f),args:=xs.toArray,argTypes:=ts }:=by exact rfl) (hx:PN l xs vs:=by repeat' first | exact trivial | refine ⟨rfl,?_⟩):
  wL P N ops Q (o::rest) l w:=Im (wn hw) hd hN (iB ho Ms hx) hc h
theorem cab {vs:List Value} {xs:List Operand} {ts:Array TypeId} (Ms: ∀ args w,(callFunc f args).run P w= .ok (.enter f args) w) (S:St B w0 w fs) (hc:Calls P f vs.toArray w λe w'=>e= .returned v/\Below w.heap.size w w') (h: ∀ w',St B w0 w' fs->wL P N ops Q rest ((d,v)::l) w')
  (hw:o.guard=none:=by exact rfl) (hd:o.dst=some d:=by exact rfl) (hN:Nat.blt d N=true:=by exact rfl) (ho:o.op= .call { callee:= .value (.func f),args:=xs.toArray,argTypes:=ts }:=by exact rfl) (hx:PN l xs vs:=by repeat' first | exact trivial | refine ⟨rfl,?_⟩):
  wL P N ops Q (o::rest) l w:=Im (wn hw) hd hN (iB ho Ms hx) hc λ_ w' h'=>⟨v,h'.1,h w' (S.on h'.2)⟩
theorem pt {fn:Func} {R:Ending->World->Prop} {j:Nat} (hR:R (.returned (qR [v])) w) (hr:fn.results=[ResultVar.tmp j].toArray:=by exact rfl) (h2:lk l j=some v:=by exact rfl):wQ N (bodyPost P fn R) .ret l w:=dO (vs:=[v]) hr ⟨h2,trivial⟩ hR
theorem gu {fn:Func} {c:Code} {vs:List Value} {R:Ending->World->Prop} (N:Nat) (hf:P.funcs[f]? =some fn) (h:wC P N c (bodyPost P fn R) (ents 0 vs) w) (hb:fn.body=some c:=by exact rfl) (hn:fn.ntmps=N:=by exact rfl) (hN:Nat.ble vs.length N=true:=by exact rfl):Calls P f vs.toArray w R:=GU hf hb hn hN h
end
section
theorem Ce {c6 c8:Code} {q3:Exit->Act->World->Prop} {o4:Operand} {i10:Nat} {os9:List Oper} (h:wL P N os9.toArray (Exit.then (c8.wp P q3) q3) os9 l w) (hc0:ev l o4=some (.bool true):=by exact rfl):wQ N (Exit.then ((Code.cond o4 (Code.seq (Code.region i10 os9.toArray false) c8) c6).wp P q3) q3) .normal l w:=gT (lF hc0 (aK (aC h)))
theorem Vs {c5:Code} {q3:Exit->Act->World->Prop} {i7:Nat} {os6:List Oper} (h:wL P N os6.toArray (Exit.then (c5.wp P q3) q3) os6 l w):wQ N (Exit.then ((Code.seq (Code.region i7 os6.toArray false) c5).wp P q3) q3) .normal l w:=gT (aK (aC h))
theorem UE {c5 c7:Code} {q3:Exit->Act->World->Prop} {i9:Nat} {os8:List Oper} (h:wL P N os8.toArray (Exit.then (c7.wp P (Exit.then (c5.wp P q3) q3)) (Exit.then (c5.wp P q3) q3)) os8 l w):wQ N (Exit.then ((Code.seq (Code.seq (Code.region i9 os8.toArray false) c7) c5).wp P q3) q3) .normal l w:=gT (aK (aK (aC h)))
theorem ajI {q3:Exit->Act->World->Prop} (h:wQ N q3 .ret l w):wQ N (Exit.then (Code.ret.wp P q3) q3) .normal l w:=gT (nP h)
theorem ady {c5 c10:Code} {q8:Exit->Act->World->Prop} {o4:Operand} {i12:Nat} {afs:List Oper} (h:wL P N afs.toArray (Exit.then (c10.wp P q8) q8) afs l w) (hc0:ev l o4=some (.bool false):=by exact rfl):wQ N (Exit.then ((Code.cond o4 c5 Code.skip).wp P (Exit.then ((Code.seq (Code.region i12 afs.toArray false) c10).wp P q8) q8)) (Exit.then ((Code.seq (Code.region i12 afs.toArray false) c10).wp P q8) q8)) .normal l w:=gT (lG hc0 (qD (gT (aK (aC h)))))
theorem as7 {c4:Code} {q2:Exit->Act->World->Prop} {i6:Nat} {os5:List Oper} (h:wL P N os5.toArray (Exit.then (c4.wp P q2) q2) os5 l w):wC P N (Code.seq (Code.region i6 os5.toArray false) c4) q2 l w:=aK (aC h)
end
end
end
section
open ChangeShapes WideShapes ChangeAt RowKit
section
variable {P:Program} {N:Nat} {l:Slots} {w w' w0:World} {B:Nat} {fs fs':List Fact} {ops:Array Oper} {o:Oper} {rest:List Oper} {Q:Exit->Act->World->Prop} {v:Value} {d:Nat}
theorem Rd.acK {e:TypeId} {s n c:Nat} {A:Option Addr} {xs:List Value} (h:nO w B e s A n c xs):Rd w w.heap.size s A n xs:=by
 obtain ⟨h1,h2,h3,⟨rfl,h4⟩ | ⟨g,o,cur,rfl,h4,h5,h6,h7⟩⟩:=h
 ·exact ⟨h1,λhn=>absurd hn (by omega)⟩
 refine ⟨h1,λ_=>⟨g,o,rfl,(Array.getElem?_eq_some_iff.1 h5).1,λj u hu=>?_⟩⟩;rw [<-h7] at hu;have hj:j<n*s:=by
  have:=(List.getElem?_eq_some_iff.1 hu).1;rw [List.length_take] at this;omega
 rw [List.getElem?_take_of_lt hj,List.getElem?_drop] at hu;rw [cell_of_row w g (o+j) _ e (0,0) h5];simpa using hu
theorem nO.uh (w:World) (B:Nat) (e:TypeId) (s:Nat):nO w B e s none 0 0 []:=⟨by simp,Nat.le_refl _,Nat.zero_le _,.inl ⟨rfl,rfl⟩⟩
theorem nO.tL {e:TypeId} {s n c:Nat} {A:Option Addr} {xs:List Value} (h:w.ownsRow B e s (.slice A n c) n xs):nO w B e s A n c xs:=by
 obtain ⟨h1,⟨h2,rfl⟩ | ⟨g,cap,cur,hv,hg,hh,hnc,hcm,hsz,htk⟩⟩:=h
 ·injection h2 with a b c'
  subst a;subst c';exact ⟨h1,Nat.le_refl _,Nat.zero_le _,.inl ⟨rfl,rfl⟩⟩
 injection hv with a b c'
 subst a;subst c';exact ⟨h1,hnc,hcm,.inr ⟨g,0,cur,rfl,hg,hh,by omega,by simpa using htk⟩⟩
theorem nO.cut {e:TypeId} {s n c k:Nat} {A:Option Addr} {xs:List Value} (h:nO w B e s A n c xs) (hk:k<=n):nO w B e s (if c=k then A else A.map (·.add (k*s))) (n-k) (c-k) (xs.drop (k*s)):=by
 obtain ⟨h1,h2,h3,h4⟩:=h;refine ⟨by rw [List.length_drop,h1,Nat.sub_mul],by omega,by omega,?_⟩
 rcases h4 with ⟨rfl,h4⟩ | ⟨g,o,cur,rfl,h4,h5,h6,h7⟩
 ·exact .inl ⟨by split<;>rfl,by omega⟩
 refine .inr ?_;by_cases hc:c=k
 ·rw [if_pos hc];have hn:n=k:=by omega
  refine ⟨g,o,cur,rfl,h4,h5,by rw [show c-k=0 by omega];omega,?_⟩;rw [show n-k=0 by omega,Nat.zero_mul,List.take_zero,<-h7,hn,List.drop_take,Nat.sub_self,List.take_zero]
 rw [if_neg hc];refine ⟨g,o+k*s,cur,by simp [Addr.add],h4,h5,?_,?_⟩
 ·have:k*s+(c-k)*s=c*s:=by rw [<-Nat.add_mul];congr 1;omega
  omega
 rw [<-h7,List.drop_take,List.drop_drop,<-Nat.sub_mul]
theorem Lf (w:World) (B:Nat) (t ty e:TypeId) (i:TypeInfo) (z:Value) (size bytes:Nat) (ht:P.underlying t=some (.slice e)) (hi:P.info? e=some i) (hz:i.zero=some z)
    (hsize:i.size=size) (hby:i.bytes=bytes) (hzs:z.cells.size=size) (hsz:0<size) (A:Option Addr) (n c:Nat) (xs:List Value) (hown:nO w B e size A n c xs)
    (a:Addr) (m c2:Nat) (news:List Value) (hl:news.length=m*size) (hnews: ∀ j u,news[j]? =some u->w.cell? (a.add j)=some u) (h1: ∀ u∈news,u.oneCell'=true)
    (h63:n+m<=maxLen) (hbytes:(n+m)*bytes<=140737488355328) (hbase:B<=w.heap.size) (hm:0<m):
    ∃ A' c' w',(Builtin.append_ #[t,t] ty #[.slice A n c,.slice (some a) m c2]).run P w= .ok (.slice A' (n+m) c') w'/\nO w' B e size A' (n+m) c' (xs++news)/\w.grownBy w' (A.map (·.block))/\
      (A'.map (·.block)=A.map (·.block)\/A'.map (·.block)=some w.heap.size):=by
  subst hsize;subst hby;have hsmall:n+m<=9223372036854775807:=by simp only [maxLen] at h63;omega
  have hrd:=Rd.acK hown;obtain ⟨hx1,hx2,hx3,hx4⟩:=hown;have hlen:(xs++news).length=(n+m)*i.size:=by rw [List.length_append,hx1,hl,Nat.add_mul]
  have grown: ∀ (old:Nat),old<n+m-> ∀ (row:Option Nat),
      nO (w.drew.alloc (.cells (xs.toArray++news.toArray++Builtin.zeroCells z.cells (grownCap w (n+m) old e-(n+m))) e)) B e i.size (some ⟨w.heap.size,0,none⟩) (n+m) (grownCap w (n+m) old e) (xs++news)/\
      w.grownBy (w.drew.alloc (.cells (xs.toArray++news.toArray++Builtin.zeroCells z.cells (grownCap w (n+m) old e-(n+m))) e)) row:=by
    intro old ho row;have hge:=grownCap_ge w (n+m) old e;have hcm:grownCap w (n+m) old e<=maxLen:=grownCap_le_maxLen w (n+m) old e h63;refine ⟨⟨hlen,hge,hcm,.inr ⟨w.heap.size,0,_,rfl,hbase,heap_alloc_new w.drew _,?_,?_⟩⟩,⟨rfl,rfl,rfl,by simp,λk hk _=>heap_alloc_old w.drew _ hk⟩⟩
    · simp only [Array.size_append,List.size_toArray,size_zeroCells,hzs,hx1,hl,<-Nat.add_mul]
      rw [Nat.zero_add];refine Nat.mul_le_mul_right _ ?_;omega
    · simp only [Array.toList_append,List.append_assoc,List.drop_zero]
      rw [<-List.append_assoc,<-hlen];exact List.take_left
  rcases hx4 with ⟨rfl,rfl⟩ | ⟨g,of,cur,rfl,hg,hh,hcs,htake⟩
  · have hn0:n=0:=by omega
    subst hn0;have hx:xs=[]:=List.eq_nil_of_length_eq_zero (by simpa using hx1);subst hx;have hr:=run_append_nil (P:=P) w t ty e i z ht hi hz a m c2 news hl hnews (by omega) (by omega) (by have hb:=hbytes;simp only [Nat.zero_add] at hb;omega);have hgr:=grown 0 (by omega) none;simp only [Nat.zero_add,List.nil_append,Array.empty_append] at hgr⊢;exact ⟨_,_,_,hr,hgr.1,hgr.2,Or.inr rfl⟩
  · by_cases hroom:n+m<=c
    · have hle:(n+m)*i.size<=c*i.size:=Nat.mul_le_mul_right _ hroom
      have hfit:of+n*i.size+news.length<=cur.size:=by rw [hl,Nat.add_assoc,<-Nat.add_mul];omega
      have hb:fT w g cur e:=⟨hh⟩;have hr:=run_append_room_cells (P:=P) (w:=w) t ty e i ht hi g of n c a m c2 news hl hnews h1 hroom
        (λj hj=>by rw [hb.cell (k:=of+n*i.size+j) (Array.getElem?_eq_getElem (by omega))];rfl) (λj _=>hb.free _)
      have hb':=jD news (of+n*i.size) hb;refine ⟨_,_,_,hr,⟨hlen,hroom,hx3,.inr ⟨g,of,_,rfl,hg,hb'.blk,by rw [mV];exact hcs,?_⟩⟩,?_,Or.inl rfl⟩
      · rw [gU _ _ _ hfit,<-hlen]
        have e1:(cur.toList.take (of+n*i.size)).drop of=xs:=by rw [<-htake,List.drop_take];congr 1;omega
        have e2:of<=(cur.toList.take (of+n*i.size)).length:=by rw [List.length_take,Array.length_toList];omega
        rw [List.append_assoc,List.drop_append_of_le_length e2,e1,<-List.append_assoc];exact List.take_left
      · have hu:=jE g news (of+n*i.size) w
        exact ⟨hu.os,hu.tape,hu.output,Nat.le_of_eq hu.size.symm,λk _ hk=>hu.block k (λe=>hk (by simp [e]))⟩
    · have hr:=run_append_grow (P:=P) w t ty e i z ht hi hz ⟨g,of,none⟩ n c xs hx1 (λj u hu=>by
          have hj:j<n*i.size:=by have:=(List.getElem?_eq_some_iff.1 hu).1;omega
          obtain ⟨b,off,e1,_,hc⟩:=hrd.2 (Nat.pos_of_ne_zero λh0=>by subst h0;omega)
          injection e1 with e1
          injection e1 with e1 e2
          subst e1;subst e2;rw [Go.WideShapes.add_plain];exact hc j u hu) a m c2 news hl hnews (by omega) (by omega) (growslice_fits (by omega) hbytes)
      have hgr:=grown c (by omega) (some g);exact ⟨_,_,_,hr,hgr.1,hgr.2,Or.inr rfl⟩
theorem St.has {f:Fact} (S:St B w0 w fs) (h:f∈fs):f.holds B w:=by
 obtain ⟨i,hi⟩:=List.mem_iff_getElem?.1 h;exact S.all i f hi
theorem St.hblk {b:Nat} {row:Array Value} {t:TypeId} (S:St B w0 w fs) (h:Fact.blk b row t∈fs):fT w b row t:=(S.has h).2
def Fact.apart (f g:Fact):Prop:= ∀ k,f.foot=some k->g.foot≠some k
theorem Fact.apart.symm {f g:Fact} (h:f.apart g):g.apart f:=λk h1 h2=>h k h2 h1
theorem St.iff:St B w0 w fs↔Below B w0 w/\B<=w.heap.size/\(∀ f∈fs,f.holds B w)/\fs.Pairwise Fact.apart:=by
 constructor
 ·intro S;refine ⟨S.low,S.base,λf hf=>S.has hf,List.pairwise_iff_getElem.2 λi j hi hj hij=>?_⟩;exact S.sep i j _ _ (by omega) (List.getElem?_eq_getElem hi) (List.getElem?_eq_getElem hj)
 rintro ⟨h1,h2,h3,h4⟩;refine ⟨h1,h2,λi f hf=>h3 f (List.mem_of_getElem? hf),λi j f g hij hi hj=>?_⟩;obtain ⟨hi1,rfl⟩:=List.getElem?_eq_some_iff.1 hi;obtain ⟨hj1,rfl⟩:=List.getElem?_eq_some_iff.1 hj
 rcases Nat.lt_or_gt_of_ne hij with h | h
 ·exact List.pairwise_iff_getElem.1 h4 i j hi1 hj1 h
 exact (List.pairwise_iff_getElem.1 h4 j i hj1 hi1 h).symm
theorem St.perm {gs:List Fact} (S:St B w0 w fs) (h:fs.Perm gs):St B w0 w gs:=by
 obtain ⟨h1,h2,h3,h4⟩:=St.iff.1 S;exact St.iff.2 ⟨h1,h2,λf hf=>h3 f (h.mem_iff.2 hf),(h.pairwise_iff λh=>h.symm).1 h4⟩
theorem St.sub {gs:List Fact} (S:St B w0 w fs) (h:gs.Sublist fs):St B w0 w gs:=by
 obtain ⟨h1,h2,h3,h4⟩:=St.iff.1 S;exact St.iff.2 ⟨h1,h2,λf hf=>h3 f (h.mem hf),h4.sublist h⟩
theorem St.abW {e:TypeId} {s n c:Nat} {A:Option Addr} {xs:List Value} (i:Nat) (S:St B w0 w fs) (hi:fs[i]? =some (.off e s A n c xs)):nO w B e s A n c xs:=S.all i _ hi
theorem St.aqv {e:TypeId} {s n c:Nat} {A:Option Addr} {xs:List Value} (i:Nat) (S:St B w0 w fs) (hi:fs[i]? =some (.off e s A n c xs)):Rd w w.heap.size s A n xs:=Rd.acK (S.abW i hi)
theorem St.amj {e:TypeId} {s n c:Nat} {A:Option Addr} {xs:List Value} (i k:Nat) (S:St B w0 w fs) (hi:fs[i]? =some (.off e s A n c xs)) (hk:k<=n):
  St B w0 w (fs.set i (.off e s (if c=k then A else A.map (·.add (k*s))) (n-k) (c-k) (xs.drop (k*s)))):=by
 refine S.turn i hi S.low (Nat.le_refl _) (λ_ _ _=>rfl) ((S.abW i hi).cut hk) λk' hk'=> .inl ?_
 cases A with
 | none=>split at hk'<;>cases hk'
 | some a=>
  show some a.block=some k'
  split at hk'
  ·exact hk'
  have:(a.add (k*s)).block=a.block:=by unfold Addr.add;split<;>rfl
  rw [<-this];exact hk'
theorem St.amk {e:TypeId} {s n c n' c':Nat} {A A':Option Addr} {xs xs':List Value} (i:Nat) (S:St B w0 w fs) (hi:fs[i]? =some (.off e s A n c xs)) (hg:w.grownBy w' (A.map (·.block))) (ho:nO w' B e s A' n' c' xs')
  (hat:A'.map (·.block)=A.map (·.block)\/A'.map (·.block)=some w.heap.size):St B w0 w' (fs.set i (.off e s A' n' c' xs')):=by
 have h:=S.all i _ hi;refine S.turn i hi (S.low.grown hg S.base (λk hk=>(Fact.mg h hk).1)) hg.size (λk hk hne=>hg.block k hk (λe=>hne e.symm)) ho (λk hk=>?_);have hk':A'.map (·.block)=some k:=hk
 rcases hat with h1 | h1
 ·exact .inl (by rw [<-hk',h1];rfl)
 rw [hk'] at h1
 cases h1;exact .inr (Nat.le_refl _)
theorem St.Cg (S:St B w0 w fs) (e:TypeId) (s:Nat):St B w0 w (.off e s none 0 0 []::fs):=S.cons (nO.uh w B e s) λk hk=>by cases hk
end
section
variable {P:Program} {N:Nat} {l:Slots} {w w' w0:World} {B m n i:Nat} {fs fs':List Fact} {ops:Array Oper} {o:Oper} {rest:List Oper} {Q:Exit->Act->World->Prop} {C:World->Prop} {listed listed':Array Bool} {v:Value} {d:Nat}
theorem Zr {x y:Operand} {t e:TypeId} {z:Value} {size bytes k q c c0 Br:Nat} {A0 A:Option Addr} {xs news xs':List Value} (hi':ops[i]? =some o) (hl:listed.setIfInBounds i true=listed') (j:Nat) (S:St B w0 w fs) (hw:Wanted N ops l o true) (hd:o.dst=some d) (hN:Nat.blt d N=true)
  (ho:o.op= .call { callee:= .builtin .append,args:= #[x,y],argTypes:= #[t,t] }) (hx:ev l x=some (.slice A0 k c0)) (hy:ev l y=some (.slice A q c)) (hi:fs[j]? =some (.off e size A0 k c0 xs)) (hr:Rd w Br size A q news) (hq:0<q)
  (ht:P.underlying t=some (.slice e)) (Zn:(P.info? e).map (λi=>(i.zero,i.size,i.bytes))=some (some z,size,bytes)) (hzs:z.cells.size=size) (hsz:0<size) (h1: ∀ u∈news,u.oneCell'=true) (h63:k+q<=maxLen) (hbytes:(k+q)*bytes<=140737488355328)
  (hxs:xs++news=xs') (h: ∀ A' c' w',St B w0 w' (fs.set j (.off e size A' (k+q) c' xs'))->C w'/\wG P N ops Q C n m listed' ((d,.slice A' (k+q) c')::l) w'):wH P N ops Q C n m i listed l w:=by
 subst hxs;obtain ⟨j0,hj0,hz,hs,hb⟩:=info_parts Zn;obtain ⟨bb,oo,rfl,_,hc⟩:=hr.2 hq;obtain ⟨A',c',w',hrun,h2,h3,h4⟩:=Lf (P:=P) w B t o.type e j0 z size bytes ht hj0 hz hs hb hzs hsz A0 k c0 xs (S.abW j hi) ⟨bb,oo,none⟩ q c news hr.1 (λa u hu=>by rw [Go.WideShapes.add_plain];exact hc a u hu) h1 h63 hbytes S.base hq;exact abM hi' hl hw hd hN (F7 (xs:=[x,y]) (vs:=[.slice A0 k c0,.slice (some ⟨bb,oo,none⟩) q c]) ho ⟨hx,hy,trivial⟩ (λcs=>by simp [builtin,hrun,Sem.run_bind,Result.andThen])) (h A' c' w' (S.amk j hi h3 h2 h4))
end
end
section
open ChangeShapes WideShapes RowKit
inductive lu (b:Nat):List Fact->Array Value->TypeId->Prop
 | z {row:Array Value} {t:TypeId} {fs:List Fact}:lu b (.blk b row t::fs) row t
 | s {row:Array Value} {t:TypeId} {f:Fact} {fs:List Fact}:lu b fs row t->lu b (f::fs) row t
theorem lu.at_ {b:Nat} {fs:List Fact} {row:Array Value} {t:TypeId} (h:lu b fs row t): ∃ i:Nat,fs[i]? =some (Fact.blk b row t):=by
 induction h with
 | z=>exact ⟨0,rfl⟩
 | s _ ih=>obtain ⟨i,hi⟩:=ih;exact ⟨i+1,by simpa using hi⟩
inductive Cr:List Fact->List Fact->Prop
 | r {fs:List Fact}:Cr fs fs
 | k {f:Fact} {fs gs:List Fact}:Cr fs gs->Cr (f::fs) (f::gs)
 | d {f:Fact} {fs gs:List Fact}:Cr fs gs->Cr fs (f::gs)
 | a {fs gs:List Fact}:Cr fs (fs++gs)
theorem Cr.sub {fs gs:List Fact} (h:Cr fs gs):fs.Sublist gs:=by
 induction h with
 | r=>exact List.Sublist.refl _
 | k _ ih=>exact ih.cons_cons _
 | d _ ih=>exact ih.cons _
 | a=>exact List.sublist_append_left _ _
theorem UF {t:TypeId} {ds:TypeDesc} (h:Tryz.prog.underlying t=some ds:=by with_reducible first | exact Tryz.underlying3 | exact Tryz.underlying43 | exact Tryz.underlying41 | exact Tryz.underlying57 | exact Tryz.underlying44 | exact Tryz.underlying80 | exact Tryz.underlying101 | exact Tryz.underlying124 | exact Tryz.underlying53 | exact Tryz.underlying96 | exact Tryz.underlying72 | exact Tryz.underlying159 | exact Tryz.underlying83 | exact Tryz.underlying201 | exact Tryz.underlying73 | exact Tryz.underlying162 | exact Tryz.underlying26 | exact Tryz.underlying163 | exact Tryz.underlying169 | exact Tryz.underlying85 | exact Tryz.underlying4 | exact Tryz.underlying36 | exact Tryz.underlying81 | exact Tryz.underlying105 | exact Tryz.underlying69 | exact Tryz.underlying35 | exact Tryz.underlying127 | exact Tryz.underlying112 | exact Tryz.underlying40 | exact Tryz.underlying214 | exact Tryz.underlying33 | exact Tryz.underlying32 | exact Tryz.underlying209 | exact Tryz.underlying23 | exact Tryz.underlying103 | exact Tryz.underlying37 | exact Tryz.underlying38 | exact Tryz.underlying146 | exact Tryz.underlying90 | exact Tryz.underlying158 | exact Tryz.underlying212 | exact Tryz.underlying84 | exact Tryz.underlying176 | exact Tryz.underlying5 | exact Tryz.underlying77 | exact Tryz.underlying76 | exact Tryz.underlying167 | exact Tryz.underlying166 | exact Tryz.underlying94 | exact Tryz.underlying51 | exact Tryz.underlying217 | exact Tryz.underlying22 | exact Tryz.underlying60 | exact Tryz.underlying75 | exact Tryz.underlying67 | exact Tryz.underlying87 | exact Tryz.underlying30):Tryz.prog.underlying t=some ds:=h
theorem iiQ {t:TypeId} {m:Nat} (h:(Tryz.prog.info? t).map (·.size)=some m:=by with_reducible first | exact aB | exact amf | exact kg | exact lH | exact dx | exact apZ | exact abQ | exact iE | exact ko | exact jR | exact fD | exact P5 | exact tO | exact iQ | exact amg | exact ap2 | exact ap0 | exact ami | exact xD | exact oQ | exact uq | exact Iq | exact wV | exact amh | exact Vk | exact qb | exact ap1 | exact acD | exact Ic | exact EZ | exact apX | exact E5 | exact zw | exact apV | exact apW | exact Cc | exact E8 | exact abP | exact sJ | exact Vl | exact PZ | exact aiO | exact Ns | exact apY | exact UD | exact acF | exact abO | exact acG | exact acE | exact aiP | exact acH | exact acI | exact aiQ):(Tryz.prog.info? t).map (·.size)=some m:=h
section
variable {P:Program} {N:Nat} {l l':Slots} {w w' w0:World} {ops:Array Oper} {o:Oper} {rest:List Oper} {Q:Exit->Act->World->Prop} {d B:Nat} {v p:Value} {fs fs':List Fact} {ex:Exit}
section
variable {x y:Operand} {t tt s:TypeId} {ds:TypeDesc} {b k f o0 n c m:Nat} {g:Nat->Nat} {row:Array Value} {A:Option Addr} {e:TypeId}
theorem zfa (ho:o.op= .fieldAddr s x f/\ev l x=some (.pointer (some ⟨b,o0,none⟩)):=by exact ⟨rfl,rfl⟩) (hf: ∀ (b o:Nat) (w:World),(Instr.fieldAt s (.pointer (some ⟨b,o,none⟩)) f).run P w= .ok (.pointer (some ⟨b,g o,none⟩)) w:=by with_reducible first | exact agt | exact acA | exact Nr | exact agS | exact alH | exact alZ | exact agN | exact agJ | exact al4 | exact agu | exact al0 | exact agI | exact agA | exact alT | exact agG | exact agY | exact agH | exact agw | exact alO | exact ag5 | exact al1 | exact agx | exact alP | exact agP | exact alJ | exact agB | exact alp | exact al2 | exact alK | exact agv | exact agC | exact agW | exact ag8 | exact alC | exact alX | exact alq | exact agZ | exact aln | exact alo | exact al6 | exact agE | exact alI | exact agM | exact ag7 | exact alL | exact alN | exact agK | exact alM | exact agX | exact alU | exact amb | exact alS | exact agQ | exact ag1 | exact amd | exact ag0 | exact al3 | exact alV | exact alW | exact alR | exact agR | exact Aq | exact Ar | exact Ap | exact agV | exact agL | exact ag2 | exact alF | exact alr | exact ame | exact ag9 | exact agO | exact ag4 | exact adw | exact amc | exact agD | exact alD | exact alE | exact alQ | exact agT | exact Ir | exact ag6 | exact als | exact alx | exact O1 | exact O4 | exact ag3 | exact X9 | exact al7 | exact al9 | exact agU | exact alu | exact alv | exact agy | exact agz | exact adx | exact Ya | exact X8 | exact X7 | exact agF | exact alz | exact alB | exact alA):gW P N l o w (.pointer (some ⟨b,g o0,none⟩)):=GZ ho.1 ho.2 (hf b o0 w)
theorem zld (ho:o.op= .load t x/\ev l x=some (.pointer (some ⟨b,k,none⟩)):=by exact ⟨rfl,rfl⟩) (hu:P.underlying t=some ds:=by exact UF) (hd:ds.isRow=false:=by exact rfl) (S:St B w0 w fs:=by assumption) (hf:lu b fs row tt:=by repeat' first | exact lu.z | apply lu.s) (hk:row[k]? =some v:=by exact rfl):gW P N l o w v:=by
 obtain ⟨i,hi⟩:=hf.at_;exact aj ho.1 ho.2 (ay hu hd (St.cl i S hi hk))
theorem zlr (ho:o.op= .load t x/\ev l x=some (.pointer (some ⟨b,0,none⟩)):=by exact ⟨rfl,rfl⟩) (hu:P.underlying t=some ds:=by exact UF) (hd:ds.isRow=true:=by exact rfl) (S:St B w0 w fs:=by assumption) (hf:lu b fs row tt:=by repeat' first | exact lu.z | apply lu.s) (hz:(P.info? t).map (·.size)=some m:=by exact iiQ) (hm:row.size=m:=by exact rfl):gW P N l o w (.agg row):=by
 obtain ⟨i,hi⟩:=hf.at_;exact aj ho.1 ho.2 (oC i S hi hu hd hz hm)
theorem zln (ho:o.op= .call { callee:= .builtin .len,args:= #[x],argTypes:= #[t] }/\ev l x=some (.slice A n c):=by exact ⟨rfl,rfl⟩) (hu:P.underlying t=some (.slice e):=by exact UF):gW P N l o w (.int .i64 ((n:Nat):Int)):=qF (xs:=[x]) (vs:=[_]) ho.1 ⟨ho.2,trivial⟩ λ_=>aiK rfl hu
theorem znl (ho:o.op= .nilCheck x:=by exact rfl) (hx:ev l x=some p:=by exact rfl) (hp:match p with | .pointer (some _)=>True | .func (.func _) _ _=>True | .func (.via ..) _ _=>True | _=>False:=by exact trivial):gW P N l o w p:=apP ho hx hp
section
variable {kd:IntKind} {xo yo:Operand} {x y:Int}
theorem aqw (ho:o.op= .binOp .lss t xo yo tt/\ev l xo=some (.int kd x)/\ev l yo=some (.int kd y):=by exact ⟨rfl,rfl,rfl⟩) (h:x<y:=by first | assumption | decide):gW P N l o w (.bool true):=aL ho.1 ho.2.1 ho.2.2 (OP h)
theorem aqx (ho:o.op= .binOp .lss t xo yo tt/\ev l xo=some (.int kd x)/\ev l yo=some (.int kd y):=by exact ⟨rfl,rfl,rfl⟩) (h: ¬ x<y:=by first | assumption | decide):gW P N l o w (.bool false):=aL ho.1 ho.2.1 ho.2.2 (OQ h)
theorem aqy (ho:o.op= .binOp .leq t xo yo tt/\ev l xo=some (.int kd x)/\ev l yo=some (.int kd y):=by exact ⟨rfl,rfl,rfl⟩) (h:x<=y:=by first | assumption | decide):gW P N l o w (.bool true):=aL ho.1 ho.2.1 ho.2.2 (XV h)
theorem aqz (ho:o.op= .binOp .leq t xo yo tt/\ev l xo=some (.int kd x)/\ev l yo=some (.int kd y):=by exact ⟨rfl,rfl,rfl⟩) (h: ¬ x<=y:=by first | assumption | decide):gW P N l o w (.bool false):=aL ho.1 ho.2.1 ho.2.2 (XW h)
theorem aqA (ho:o.op= .binOp .gtr t xo yo tt/\ev l xo=some (.int kd x)/\ev l yo=some (.int kd y):=by exact ⟨rfl,rfl,rfl⟩) (h:y<x:=by first | assumption | decide):gW P N l o w (.bool true):=aL ho.1 ho.2.1 ho.2.2 (XY h)
theorem aqB (ho:o.op= .binOp .gtr t xo yo tt/\ev l xo=some (.int kd x)/\ev l yo=some (.int kd y):=by exact ⟨rfl,rfl,rfl⟩) (h: ¬ y<x:=by first | assumption | decide):gW P N l o w (.bool false):=aL ho.1 ho.2.1 ho.2.2 (XZ h)
theorem aqC (ho:o.op= .binOp .geq t xo yo tt/\ev l xo=some (.int kd x)/\ev l yo=some (.int kd y):=by exact ⟨rfl,rfl,rfl⟩) (h:y<=x:=by first | assumption | decide):gW P N l o w (.bool true):=aL ho.1 ho.2.1 ho.2.2 (X0 h)
theorem aqD (ho:o.op= .binOp .geq t xo yo tt/\ev l xo=some (.int kd x)/\ev l yo=some (.int kd y):=by exact ⟨rfl,rfl,rfl⟩) (h: ¬ y<=x:=by first | assumption | decide):gW P N l o w (.bool false):=aL ho.1 ho.2.1 ho.2.2 (X4 h)
theorem aqE (ho:o.op= .binOp .eql t xo yo tt/\ev l xo=some (.int kd x)/\ev l yo=some (.int kd y):=by exact ⟨rfl,rfl,rfl⟩) (h:x=y:=by first | assumption | decide):gW P N l o w (.bool true):=aL ho.1 ho.2.1 ho.2.2 (OT h)
theorem aqF (ho:o.op= .binOp .eql t xo yo tt/\ev l xo=some (.int kd x)/\ev l yo=some (.int kd y):=by exact ⟨rfl,rfl,rfl⟩) (h: ¬ x=y:=by first | assumption | decide):gW P N l o w (.bool false):=aL ho.1 ho.2.1 ho.2.2 (OU h)
theorem aqG (ho:o.op= .binOp .neq t xo yo tt/\ev l xo=some (.int kd x)/\ev l yo=some (.int kd y):=by exact ⟨rfl,rfl,rfl⟩) (h: ¬ x=y:=by first | assumption | decide):gW P N l o w (.bool true):=aL ho.1 ho.2.1 ho.2.2 (OV h)
theorem aqH (ho:o.op= .binOp .neq t xo yo tt/\ev l xo=some (.int kd x)/\ev l yo=some (.int kd y):=by exact ⟨rfl,rfl,rfl⟩) (h:x=y:=by first | assumption | decide):gW P N l o w (.bool false):=aL ho.1 ho.2.1 ho.2.2 (Io h)
theorem aml (ho:o.op= .binOp .lss t xo yo tt/\ev l xo=some (.int kd x)/\ev l yo=some (.int kd y):=by exact ⟨rfl,rfl,rfl⟩) (h:x<y:=by omega):gW P N l o w (.bool true):=aL ho.1 ho.2.1 ho.2.2 (OP h)
theorem amm (ho:o.op= .binOp .lss t xo yo tt/\ev l xo=some (.int kd x)/\ev l yo=some (.int kd y):=by exact ⟨rfl,rfl,rfl⟩) (h: ¬ x<y:=by omega):gW P N l o w (.bool false):=aL ho.1 ho.2.1 ho.2.2 (OQ h)
theorem amn (ho:o.op= .binOp .leq t xo yo tt/\ev l xo=some (.int kd x)/\ev l yo=some (.int kd y):=by exact ⟨rfl,rfl,rfl⟩) (h:x<=y:=by omega):gW P N l o w (.bool true):=aL ho.1 ho.2.1 ho.2.2 (XV h)
theorem amo (ho:o.op= .binOp .leq t xo yo tt/\ev l xo=some (.int kd x)/\ev l yo=some (.int kd y):=by exact ⟨rfl,rfl,rfl⟩) (h: ¬ x<=y:=by omega):gW P N l o w (.bool false):=aL ho.1 ho.2.1 ho.2.2 (XW h)
theorem amq (ho:o.op= .binOp .gtr t xo yo tt/\ev l xo=some (.int kd x)/\ev l yo=some (.int kd y):=by exact ⟨rfl,rfl,rfl⟩) (h:y<x:=by omega):gW P N l o w (.bool true):=aL ho.1 ho.2.1 ho.2.2 (XY h)
theorem amr (ho:o.op= .binOp .gtr t xo yo tt/\ev l xo=some (.int kd x)/\ev l yo=some (.int kd y):=by exact ⟨rfl,rfl,rfl⟩) (h: ¬ y<x:=by omega):gW P N l o w (.bool false):=aL ho.1 ho.2.1 ho.2.2 (XZ h)
theorem ams (ho:o.op= .binOp .geq t xo yo tt/\ev l xo=some (.int kd x)/\ev l yo=some (.int kd y):=by exact ⟨rfl,rfl,rfl⟩) (h:y<=x:=by omega):gW P N l o w (.bool true):=aL ho.1 ho.2.1 ho.2.2 (X0 h)
theorem amt (ho:o.op= .binOp .geq t xo yo tt/\ev l xo=some (.int kd x)/\ev l yo=some (.int kd y):=by exact ⟨rfl,rfl,rfl⟩) (h: ¬ y<=x:=by omega):gW P N l o w (.bool false):=aL ho.1 ho.2.1 ho.2.2 (X4 h)
theorem amu (ho:o.op= .binOp .eql t xo yo tt/\ev l xo=some (.int kd x)/\ev l yo=some (.int kd y):=by exact ⟨rfl,rfl,rfl⟩) (h:x=y:=by omega):gW P N l o w (.bool true):=aL ho.1 ho.2.1 ho.2.2 (OT h)
theorem amv (ho:o.op= .binOp .eql t xo yo tt/\ev l xo=some (.int kd x)/\ev l yo=some (.int kd y):=by exact ⟨rfl,rfl,rfl⟩) (h: ¬ x=y:=by omega):gW P N l o w (.bool false):=aL ho.1 ho.2.1 ho.2.2 (OU h)
theorem amw (ho:o.op= .binOp .neq t xo yo tt/\ev l xo=some (.int kd x)/\ev l yo=some (.int kd y):=by exact ⟨rfl,rfl,rfl⟩) (h: ¬ x=y:=by omega):gW P N l o w (.bool true):=aL ho.1 ho.2.1 ho.2.2 (OV h)
theorem amx (ho:o.op= .binOp .neq t xo yo tt/\ev l xo=some (.int kd x)/\ev l yo=some (.int kd y):=by exact ⟨rfl,rfl,rfl⟩) (h:x=y:=by omega):gW P N l o w (.bool false):=aL ho.1 ho.2.1 ho.2.2 (Io h)
end
theorem anC {P:Program} {w:World} {t:TypeId} {xo yo:Operand} {a b:ByteArray} {q:Bool} (h:(a.toList==b.toList)=q):(do eqGuard .eql t xo yo (.string a) (.string b);binOp .eql t (.string a) (.string b):Sem Value).run P w= .ok (.bool q) w:=by
 subst h;simp [binOp,eqGuard_at_string,go_sem,Op.stringOp]
theorem as8 {xo yo:Operand} {a b:ByteArray} (ho:o.op= .binOp .eql t xo yo tt/\ev l xo=some (.string a)/\ev l yo=some (.string b):=by exact ⟨rfl,rfl,rfl⟩) (h:(a.toList==b.toList)=true:=by decide+kernel):gW P N l o w (.bool true):=aL ho.1 ho.2.1 ho.2.2 (anC h)
theorem as9 {xo yo:Operand} {a b:ByteArray} (ho:o.op= .binOp .eql t xo yo tt/\ev l xo=some (.string a)/\ev l yo=some (.string b):=by exact ⟨rfl,rfl,rfl⟩) (h:(a.toList==b.toList)=false:=by decide+kernel):gW P N l o w (.bool false):=aL ho.1 ho.2.1 ho.2.2 (anC h)
end
end
theorem ata: ∀ w,(Instr.build 32 ([]:List (Nat×Value)).toArray).run Tryz.prog w= .ok (.agg #[.int .i64 0,.int .i64 0]) w:=λw=>by kernel_rfl
theorem atb: ∀ w,(Instr.build 35 ([]:List (Nat×Value)).toArray).run Tryz.prog w= .ok (.agg #[.int .i64 0,.int .i64 0,.int .i64 0,.int .i64 0,.int .i64 0,.int .i64 0,.int .i64 0,.int .i64 0]) w:=λw=>by kernel_rfl
theorem atc: ∀ w,(Instr.build 40 ([]:List (Nat×Value)).toArray).run Tryz.prog w= .ok (.agg #[.int .i64 0,.bool false,.bool false,.bool false,.bool false,.bool false,.int .i64 0,.int .i64 0,.int .i64 0,.int .i64 0,.int .i64 0,.int .i64 0,.int .i64 0,.int .i64 0,.slice none 0 0,.slice none 0 0,.slice none 0 0,.int .i64 0]) w:=λw=>by kernel_rfl
theorem atd: ∀ w,(Instr.build 43 ([]:List (Nat×Value)).toArray).run Tryz.prog w= .ok (.agg #[.int .i64 0,.int .i64 0,.int .i64 0,.int .i64 0,.int .i64 0,.slice none 0 0]) w:=λw=>by kernel_rfl
theorem ate: ∀ w,(Instr.build 166 ([]:List (Nat×Value)).toArray).run Tryz.prog w= .ok (.agg #[.int .i64 0,.bool false,.bool false,.bool false,.bool false,.bool false,.bool false,.bool false,.bool false]) w:=λw=>by kernel_rfl
theorem atf: ∀ w,(Instr.build 53 ([]:List (Nat×Value)).toArray).run Tryz.prog w= .ok (.agg #[.int .i64 0,.int .i64 0,.int .i64 0,.int .i64 0,.int .i64 0,.int .i64 0]) w:=λw=>by kernel_rfl
theorem atg: ∀ w,(Instr.build 57 ([]:List (Nat×Value)).toArray).run Tryz.prog w= .ok (.agg #[.int .i64 0,.int .i64 0,.int .i64 0,.int .i64 0,.int .i64 0,.int .i64 0,.int .i64 0,.int .i64 0,.int .i64 0,.int .i64 0,.int .i64 0]) w:=λw=>by kernel_rfl
theorem ath: ∀ w,(Instr.build 101 ([]:List (Nat×Value)).toArray).run Tryz.prog w= .ok (.agg #[.int .i64 0,.int .i64 0,.int .i64 0,.int .i64 0]) w:=λw=>by kernel_rfl
theorem ati: ∀ w,(Instr.build 103 ([]:List (Nat×Value)).toArray).run Tryz.prog w= .ok (.agg #[.int .i64 0,.int .i64 0,.int .i64 0,.int .i64 0,.int .i64 0,.int .i64 0,.int .i64 0]) w:=λw=>by kernel_rfl
theorem atj: ∀ w,(Instr.build 209 ([]:List (Nat×Value)).toArray).run Tryz.prog w= .ok (.agg #[.int .i64 0,.int .i64 0]) w:=λw=>by kernel_rfl
theorem atl: ∀ w,(Instr.build 212 ([]:List (Nat×Value)).toArray).run Tryz.prog w= .ok (.agg #[.int .i64 0,.int .i64 0,.int .i64 0,.int .i64 0]) w:=λw=>by kernel_rfl
theorem aqI: ∀ w,(Instr.build 75 ([]:List (Nat×Value)).toArray).run Tryz.prog w= .ok (.agg #[.int .i64 0,.int .i64 0]) w:=λw=>by kernel_rfl
theorem aqJ: ∀ w,(Instr.build 83 ([]:List (Nat×Value)).toArray).run Tryz.prog w= .ok (.agg #[.slice none 0 0,.int .i64 0]) w:=λw=>by kernel_rfl
theorem aqK: ∀ w,(Instr.build 87 ([]:List (Nat×Value)).toArray).run Tryz.prog w= .ok (.agg #[.int .i64 0,.bool false,.slice none 0 0,.int .i64 0,.slice none 0 0,.int .i64 0,.int .i64 0,.int .i64 0,.int .i64 0,.int .i64 0,.int .i64 0,.int .i64 0,.int .i64 0,.bool false,.bool false,.bool false,.bool false,.slice none 0 0,.nilFunc,.int .i64 0]) w:=λw=>by kernel_rfl
theorem aqL: ∀ w,(Instr.build 96 ([]:List (Nat×Value)).toArray).run Tryz.prog w= .ok (.agg #[.pointer none,.int .i64 0]) w:=λw=>by kernel_rfl
theorem aqM: ∀ w,(Instr.build 105 ([]:List (Nat×Value)).toArray).run Tryz.prog w= .ok (.agg #[.int .i64 0,.int .i64 0,.int .i64 0,.int .i64 0,.int .i64 0,.int .i64 0,.int .i64 0,.int .i64 0,.int .i64 0,.int .i64 0,.int .i64 0,.int .i64 0,.int .i64 0,.slice none 0 0,.bool false,.int .i64 0,.int .i64 0,.int .i64 0,.int .i64 0,.int .i64 0,.int .i64 0,.int .i64 0,.int .i64 0]) w:=λw=>by kernel_rfl
theorem aqN: ∀ w,(Instr.build 124 ([]:List (Nat×Value)).toArray).run Tryz.prog w= .ok (.agg #[.int .i64 0,.int .i64 0,.int .i64 0,.int .i64 0,.int .i64 0,.int .i64 0,.int .i64 0,.int .i64 0,.int .i64 0,.int .i64 0]) w:=λw=>by kernel_rfl
section
variable {P:Program} {N:Nat} {l l':Slots} {w w' w0:World} {ops:Array Oper} {o:Oper} {rest:List Oper} {Q:Exit->Act->World->Prop} {d B:Nat} {v p:Value} {fs fs':List Fact} {ex:Exit}
section
variable {x y:Operand} {t tt s:TypeId} {ds:TypeDesc} {b k f o0 n c m:Nat} {g:Nat->Nat} {row:Array Value} {A:Option Addr} {e:TypeId}
theorem ybz {row:Array Value} (ho:o.op= .build t ([]:List (Nat×Operand)).toArray:=by exact rfl) (hr: ∀ w,(Instr.build t ([]:List (Nat×Value)).toArray).run P w= .ok (.agg row) w:=by with_reducible first | exact ata | exact atb | exact atc | exact atd | exact ate | exact atf | exact atg | exact ath | exact ati | exact atj | exact atl | exact aqI | exact aqJ | exact aqK | exact aqL | exact aqM | exact aqN):gW P N l o w (.agg row):=DC (vs:=[]) ho trivial (hr w)
theorem y0Q (hy:gW P N l o w v:=by first | exact ym | exact ya | exact yx | exact yno | exact znl | exact zfa | exact zld | exact zlr | exact zln | exact ypT | exact ypF | exact ybz | exact as8 | exact as9 | exact aqw | exact aqx | exact aqy | exact aqz | exact aqA | exact aqB | exact aqC | exact aqD | exact aqE | exact aqF | exact aqG | exact aqH | exact aml | exact amm | exact amn | exact amo | exact amq | exact amr | exact ams | exact amt | exact amu | exact amv | exact amw | exact amx):gW P N l o w v:=hy
end
inductive lW:Nat->List Bool->Nat->List Bool->Prop
 | z {l:List Bool}:lW 0 (false::l) 0 (true::l)
 | t {k i:Nat} {l l':List Bool}:lW k l i l'->lW k (true::l) (i+1) (true::l')
 | f {k i:Nat} {l l':List Bool}:lW k l i l'->lW (k+1) (false::l) (i+1) (false::l')
theorem lW.eq {k i:Nat} {l l':List Bool} (h:lW k l i l'):l.toArray.setIfInBounds i true=l'.toArray:=by
 suffices h2:l.set i true=l' by simp [h2]
 induction h with
 | z=>rfl
 | t _ ih=>rw [List.set_cons_succ,ih]
 | f _ ih=>rw [List.set_cons_succ,ih]
inductive qH:List Bool->Nat->List Bool->Prop
 | z {b:Bool} {l:List Bool}:qH (b::l) 0 (true::l)
 | s {b:Bool} {i:Nat} {l l':List Bool}:qH l i l'->qH (b::l) (i+1) (b::l')
theorem qH.eq {i:Nat} {l l':List Bool} (h:qH l i l'):l.toArray.setIfInBounds i true=l'.toArray:=by
 suffices h2:l.set i true=l' by simp [h2]
 induction h with
 | z=>rfl
 | s _ ih=>rw [List.set_cons_succ,ih]
def Step (A B:Prop):Prop:=B->A
section
variable {C:World->Prop} {Qa:Act->Prop} {j:Nat} {t:Nat} {u:Value} {b:Bool}
theorem q1Q (hw:o.guard=none/\o.dst=some d/\Nat.blt d N=true:=by exact ⟨rfl,rfl,rfl⟩) (hy:gW P N l o w v:=by exact y0Q):Step (wL P N ops Q (o::rest) l w) (wL P N ops Q rest ((d,v)::l) w):=λh=>EX (wn hw.1) hw.2.1 hw.2.2 hy h
theorem q2Q (hg:o.guard=some (j,b)/\(ops[j]?).bind (·.dst)=some t:=by exact ⟨rfl,rfl⟩) (hv:lk l t=some u:=by exact rfl) (hr:(yl u==some b)=true/\o.dst=some d/\Nat.blt d N=true:=by exact ⟨rfl,rfl,rfl⟩) (hy:gW P N l o w v:=by exact y0Q):Step (wL P N ops Q (o::rest) l w) (wL P N ops Q rest ((d,v)::l) w):=λh=>EX (wg hg.1 hg.2 hv hr.1) hr.2.1 hr.2.2 hy h
theorem q3Q (hw:o.guard=none/\o.dst=some d/\Nat.blt d N=true:=by exact ⟨rfl,rfl,rfl⟩) (hy: ∀ w,C w->gW P N l o w v:=by (intro w S;exact y0Q)):Step (wU P N ops C Qa (o::rest) l) (wU P N ops C Qa rest ((d,v)::l)):=λh=>Np (wn hw.1) hw.2.1 hw.2.2 hy h
theorem q4Q (hg:o.guard=some (j,b)/\(ops[j]?).bind (·.dst)=some t:=by exact ⟨rfl,rfl⟩) (hv:lk l t=some u:=by exact rfl) (hr:(yl u==some b)=true/\o.dst=some d/\Nat.blt d N=true:=by exact ⟨rfl,rfl,rfl⟩) (hy: ∀ w,C w->gW P N l o w v:=by (intro w S;exact y0Q)):Step (wU P N ops C Qa (o::rest) l) (wU P N ops C Qa rest ((d,v)::l)):=λh=>Np (wg hg.1 hg.2 hv hr.1) hr.2.1 hr.2.2 hy h
theorem St.fit {gs:List Fact} (S:St B w0 w gs) (h:Cr fs gs:=by repeat' first | exact Cr.r | exact Cr.a | apply Cr.k | apply Cr.d):St B w0 w fs:=S.sub h.sub
section
variable {n m i:Nat} {listed listed':Array Bool}
theorem Yd {ls ls':List Bool} (q:Nat) (hl:lW q ls i ls':=by repeat' first | exact lW.z | apply lW.t | apply lW.f) (hi:ops[i]? =some o:=by exact rfl) (hw:o.guard=none/\o.dst=some d/\Nat.blt d N=true:=by exact ⟨rfl,rfl,rfl⟩) (hy: ∀ w,C w->gW P N l o w v:=by (intro w S;exact y0Q)) (hS:C w:=by first | assumption | exact St.fit (by assumption)) (hs:Region.noSelect ops=true:=by kernel_rfl) (hf:Region.free .any ops ls.toArray i=true:=by kernel_rfl) (hr:(Region.ready .any ops ls.toArray).contains i=true:=by kernel_rfl):Step (wA P N ops Q C (n+1) ls.toArray l w) (wA P N ops Q C n ls'.toArray ((d,v)::l) w):=λh=>jg hi hs hf hr hS hl.eq (wn hw.1) hw.2.1 hw.2.2 hy h
theorem Ye {ls ls':List Bool} (q:Nat) (hl:lW q ls i ls':=by repeat' first | exact lW.z | apply lW.t | apply lW.f) (hi:ops[i]? =some o:=by exact rfl) (hw:o.guard=none/\o.dst=some d/\Nat.blt d N=true:=by exact ⟨rfl,rfl,rfl⟩) (hy: ∀ w,C w->gW P N l o w v:=by (intro w S;exact y0Q)) (hS:C w:=by first | assumption | exact St.fit (by assumption)) (hs:Region.noSelect ops=true:=by kernel_rfl) (hf:Region.free .any ops ls.toArray i=true:=by kernel_rfl) (hr:(Region.ready .any ops ls.toArray).contains i=true:=by kernel_rfl) (hnl:ls.toArray.getD n true=false:=by exact rfl) (hni:xC ops n i=true:=by kernel_rfl) (hne:Nat.beq n i=false:=by exact rfl):Step (wG P N ops Q C n (m+1) ls.toArray l w) (wG P N ops Q C n m ls'.toArray ((d,v)::l) w):=λh=>DI hi hs hf hr hnl hni hne hS hl.eq (wn hw.1) hw.2.1 hw.2.2 hy h
theorem Yf {ls ls':List Bool} (q:Nat) (hl:lW q ls i ls':=by repeat' first | exact lW.z | apply lW.t | apply lW.f) (hi:ops[i]? =some o:=by exact rfl) (hg:o.guard=some (j,b)/\(ops[j]?).bind (·.dst)=some t:=by exact ⟨rfl,rfl⟩) (hv:lk l t=some u:=by exact rfl) (hr0:(yl u==some b)=true/\o.dst=some d/\Nat.blt d N=true:=by exact ⟨rfl,rfl,rfl⟩) (hy: ∀ w,C w->gW P N l o w v:=by (intro w S;exact y0Q)) (hS:C w:=by first | assumption | exact St.fit (by assumption)) (hs:Region.noSelect ops=true:=by kernel_rfl) (hf:Region.free .any ops ls.toArray i=true:=by kernel_rfl) (hr:(Region.ready .any ops ls.toArray).contains i=true:=by kernel_rfl):Step (wA P N ops Q C (n+1) ls.toArray l w) (wA P N ops Q C n ls'.toArray ((d,v)::l) w):=λh=>jg hi hs hf hr hS hl.eq (wg hg.1 hg.2 hv hr0.1) hr0.2.1 hr0.2.2 hy h
theorem Yg {ls ls':List Bool} (q:Nat) (hl:lW q ls i ls':=by repeat' first | exact lW.z | apply lW.t | apply lW.f) (hi:ops[i]? =some o:=by exact rfl) (hg:o.guard=some (j,b)/\(ops[j]?).bind (·.dst)=some t:=by exact ⟨rfl,rfl⟩) (hv:lk l t=some u:=by exact rfl) (hr0:(yl u==some b)=false/\o.dst=some d/\Nat.blt d N=true:=by exact ⟨rfl,rfl,rfl⟩) (hS:C w:=by first | assumption | exact St.fit (by assumption)) (hs:Region.noSelect ops=true:=by kernel_rfl) (hf:Region.free .any ops ls.toArray i=true:=by kernel_rfl) (hr:(Region.ready .any ops ls.toArray).contains i=true:=by kernel_rfl):Step (wA P N ops Q C (n+1) ls.toArray l w) (wA P N ops Q C n ls'.toArray ((d,undef)::l) w):=λh=>Am hi hs hf hr hS hl.eq (wg hg.1 hg.2 hv hr0.1) hr0.2.1 hr0.2.2 h
theorem Yh {ls ls':List Bool} (q:Nat) (hl:lW q ls i ls':=by repeat' first | exact lW.z | apply lW.t | apply lW.f) (hi:ops[i]? =some o:=by exact rfl) (hg:o.guard=some (j,b)/\(ops[j]?).bind (·.dst)=some t:=by exact ⟨rfl,rfl⟩) (hv:lk l t=some u:=by exact rfl) (hr0:(yl u==some b)=true/\o.dst=some d/\Nat.blt d N=true:=by exact ⟨rfl,rfl,rfl⟩) (hy: ∀ w,C w->gW P N l o w v:=by (intro w S;exact y0Q)) (hS:C w:=by first | assumption | exact St.fit (by assumption)) (hs:Region.noSelect ops=true:=by kernel_rfl) (hf:Region.free .any ops ls.toArray i=true:=by kernel_rfl) (hr:(Region.ready .any ops ls.toArray).contains i=true:=by kernel_rfl) (hnl:ls.toArray.getD n true=false:=by exact rfl) (hni:xC ops n i=true:=by kernel_rfl) (hne:Nat.beq n i=false:=by exact rfl):Step (wG P N ops Q C n (m+1) ls.toArray l w) (wG P N ops Q C n m ls'.toArray ((d,v)::l) w):=λh=>DI hi hs hf hr hnl hni hne hS hl.eq (wg hg.1 hg.2 hv hr0.1) hr0.2.1 hr0.2.2 hy h
theorem Iw {ls ls':List Bool} (q:Nat) (hl:lW q ls i ls':=by repeat' first | exact lW.z | apply lW.t | apply lW.f) (hi:ops[i]? =some o:=by exact rfl) (hg:o.guard=some (j,b)/\(ops[j]?).bind (·.dst)=some t:=by exact ⟨rfl,rfl⟩) (hv:lk l t=some u:=by exact rfl) (hr0:(yl u==some b)=false/\o.dst=some d/\Nat.blt d N=true:=by exact ⟨rfl,rfl,rfl⟩) (hS:C w:=by first | assumption | exact St.fit (by assumption)) (hs:Region.noSelect ops=true:=by kernel_rfl) (hf:Region.free .any ops ls.toArray i=true:=by kernel_rfl) (hr:(Region.ready .any ops ls.toArray).contains i=true:=by kernel_rfl) (hnl:ls.toArray.getD n true=false:=by exact rfl) (hni:xC ops n i=true:=by kernel_rfl) (hne:Nat.beq n i=false:=by exact rfl):Step (wG P N ops Q C n (m+1) ls.toArray l w) (wG P N ops Q C n m ls'.toArray ((d,undef)::l) w):=λh=>agr hi hs hf hr hnl hni hne hS hl.eq (wg hg.1 hg.2 hv hr0.1) hr0.2.1 hr0.2.2 h
end
end
section
variable {fn:Func} {R:Ending->World->Prop} {i j k:Nat} {v1 v2 v3:Value} {ty t tt:TypeId} {b m:Nat} {row:Array Value} {ds:TypeDesc}
theorem p0Q (hr:fn.results=([]:List ResultVar).toArray:=by exact rfl):Step (wQ N (bodyPost P fn R) .ret l w) (R (.returned (qR [])) w):=λhR=>dO (vs:=[]) hr trivial hR
theorem atm (hr:fn.results=([]:List ResultVar).toArray:=by exact rfl):Step (wQ N (bodyPost P fn R) .normal l w) (R (.returned (qR [])) w):=λhR=>bg (vs:=[]) hr trivial hR
theorem p1Q (hr:fn.results=[ResultVar.tmp i].toArray:=by exact rfl) (h1:lk l i=some v1:=by exact rfl):Step (wQ N (bodyPost P fn R) .ret l w) (R (.returned (qR [v1])) w):=λhR=>dO (vs:=[v1]) hr ⟨h1,trivial⟩ hR
theorem p2Q (hr:fn.results=[ResultVar.tmp i,ResultVar.tmp j].toArray:=by exact rfl) (h1:lk l i=some v1:=by exact rfl) (h2:lk l j=some v2:=by exact rfl):Step (wQ N (bodyPost P fn R) .ret l w) (R (.returned (qR [v1,v2])) w):=λhR=>dO (vs:=[v1,v2]) hr ⟨h1,h2,trivial⟩ hR
theorem p3Q (hr:fn.results=[ResultVar.tmp i,ResultVar.tmp j,ResultVar.tmp k].toArray:=by exact rfl) (h1:lk l i=some v1:=by exact rfl) (h2:lk l j=some v2/\lk l k=some v3:=by exact ⟨rfl,rfl⟩):Step (wQ N (bodyPost P fn R) .ret l w) (R (.returned (qR [v1,v2,v3])) w):=λhR=>dO (vs:=[v1,v2,v3]) hr ⟨h1,h2.1,h2.2,trivial⟩ hR
theorem atn (hr:fn.results=[ResultVar.cell i ty].toArray/\lk l i=some (.pointer (some ⟨b,0,none⟩)):=by exact ⟨rfl,rfl⟩) (S:St B w0 w fs:=by assumption) (hf:lu b fs row tt:=by repeat' first | exact lu.z | apply lu.s) (hu:P.underlying ty=some ds:=by exact UF) (hd:ds.isRow=true:=by exact rfl) (hz:(P.info? ty).map (·.size)=some m:=by exact iiQ) (hm:row.size=m:=by exact rfl):Step (wQ N (bodyPost P fn R) .ret l w) (R (.returned (qR [.agg row])) w):=λhR=>by
 obtain ⟨q,hq⟩:=hf.at_;exact dO (vs:=[.agg row]) hr.1 ⟨⟨_,hr.2,eG q S hq hu hd (by rw [hm];exact hz)⟩,trivial⟩ hR
theorem ato (hr:fn.results=[ResultVar.cell i ty,ResultVar.tmp j].toArray:=by exact rfl) (h1:lk l j=some v1:=by exact rfl) (hc:lk l i=some (.pointer (some ⟨b,0,none⟩)):=by exact rfl) (S:St B w0 w fs:=by assumption) (hf:lu b fs row tt:=by repeat' first | exact lu.z | apply lu.s) (hu:P.underlying ty=some ds:=by exact UF) (hd:ds.isRow=true:=by exact rfl) (hz:(P.info? ty).map (·.size)=some m:=by exact iiQ) (hm:row.size=m:=by exact rfl):Step (wQ N (bodyPost P fn R) .ret l w) (R (.returned (qR [.agg row,v1])) w):=λhR=>by
 obtain ⟨q,hq⟩:=hf.at_;exact dO (vs:=[.agg row,v1]) hr ⟨⟨_,hc,eG q S hq hu hd (by rw [hm];exact hz)⟩,h1,trivial⟩ hR
theorem atp (hr:fn.results=[ResultVar.cell i ty,ResultVar.tmp j,ResultVar.tmp k].toArray:=by exact rfl) (h1:lk l j=some v1:=by exact rfl) (h2:lk l k=some v2/\lk l i=some (.pointer (some ⟨b,0,none⟩)):=by exact ⟨rfl,rfl⟩) (S:St B w0 w fs:=by assumption) (hf:lu b fs row tt:=by repeat' first | exact lu.z | apply lu.s) (hu:P.underlying ty=some ds:=by exact UF) (hd:ds.isRow=true:=by exact rfl) (hz:(P.info? ty).map (·.size)=some m:=by exact iiQ) (hm:row.size=m:=by exact rfl):Step (wQ N (bodyPost P fn R) .ret l w) (R (.returned (qR [.agg row,v1,v2])) w):=λhR=>by
 obtain ⟨q,hq⟩:=hf.at_;exact dO (vs:=[.agg row,v1,v2]) hr ⟨⟨_,h2.2,eG q S hq hu hd (by rw [hm];exact hz)⟩,h1,h2.1,trivial⟩ hR
theorem atq {r:Nat} (hr:fn.results=[ResultVar.cell i ty,ResultVar.tmp j,ResultVar.tmp k,ResultVar.tmp r].toArray:=by exact rfl) (h1:lk l j=some v1:=by exact rfl) (h2:lk l k=some v2/\lk l r=some v3/\lk l i=some (.pointer (some ⟨b,0,none⟩)):=by exact ⟨rfl,rfl,rfl⟩) (S:St B w0 w fs:=by assumption) (hf:lu b fs row tt:=by repeat' first | exact lu.z | apply lu.s) (hu:P.underlying ty=some ds:=by exact UF) (hd:ds.isRow=true:=by exact rfl) (hz:(P.info? ty).map (·.size)=some m:=by exact iiQ) (hm:row.size=m:=by exact rfl):Step (wQ N (bodyPost P fn R) .ret l w) (R (.returned (qR [.agg row,v1,v2,v3])) w):=λhR=>by
 obtain ⟨q,hq⟩:=hf.at_;exact dO (vs:=[.agg row,v1,v2,v3]) hr ⟨⟨_,h2.2.2,eG q S hq hu hd (by rw [hm];exact hz)⟩,h1,h2.1,h2.2.1,trivial⟩ hR
end
theorem gLQ {B:Prop} (h:Step (wL P N ops Q rest l w) B):Step (wL P N ops Q rest l w) B:=h
theorem gQQ {B:Prop} (h:Step (wQ N Q ex l w) B):Step (wQ N Q ex l w) B:=h
theorem gUQ {B:Prop} {C:World->Prop} {Qa:Act->Prop} (h:Step (wU P N ops C Qa rest l) B):Step (wU P N ops C Qa rest l) B:=h
theorem gAQ {B:Prop} {C:World->Prop} {n:Nat} {ls:List Bool} (h:Step (wA P N ops Q C (n+1) ls.toArray l w) B):Step (wA P N ops Q C (n+1) ls.toArray l w) B:=h
theorem gGQ {B:Prop} {C:World->Prop} {n m:Nat} {ls:List Bool} (h:Step (wG P N ops Q C n (m+1) ls.toArray l w) B):Step (wG P N ops Q C n (m+1) ls.toArray l w) B:=h
section
variable {K:Act->World->Prop} {x y:Code} {id:Nat} {os:List Oper} {c:Operand} {C:World->Prop} {Qa:Act->Prop} {j t n:Nat} {u:Value} {b:Bool} {listed:Array Bool} {A B:Prop}
theorem s1Q:Step (wQ N (Exit.then (y.wp P Q) Q) .normal l w) (wC P N y Q l w):=gT
theorem s2Q:Step (wC P N (.seq x y) Q l w) (wC P N x (Exit.then (y.wp P Q) Q) l w):=aK
theorem s3Q:Step (wC P N (.region id os.toArray false) Q l w) (wL P N os.toArray Q os l w):=aC
theorem s4Q:Step (wC P N .skip Q l w) (wQ N Q .normal l w):=qD
theorem s5Q:Step (wC P N (.block id x) Q l w) (wC P N x (Exit.inBlock id Q) l w):=Ei
theorem s6Q:Step (wQ N (Exit.inBlock id Q) .normal l w) (wQ N Q .normal l w):=iw
theorem s7Q:Step (wC P N .ret Q l w) (wQ N Q .ret l w):=nP
theorem s8Q:Step (wQ N (Exit.then K Q) .ret l w) (wQ N Q .ret l w):=gV
theorem s9Q:Step (wQ N (Exit.inBlock id Q) .ret l w) (wQ N Q .ret l w):=WG
theorem atr:Step (wC P N (.exit id) Q l w) (wQ N Q (.exit id) l w):=agj
theorem att:Step (wQ N (Exit.then K Q) (.exit id) l w) (wQ N Q (.exit id) l w):=PO
theorem atu:Step (wQ N (Exit.inBlock id Q) (.exit id) l w) (wQ N Q .normal l w):=Tn
theorem atv:Step (wL P N ops Q [] l w) (wQ N Q .normal l w):=acr
theorem atw (hc:ev l c=some (.bool true)):Step (wC P N (.cond c x y) Q l w) (wC P N x Q l w):=lF hc
theorem atx (hc:ev l c=some (.bool false)):Step (wC P N (.cond c x y) Q l w) (wC P N y Q l w):=lG hc
theorem aty (hg:o.guard=some (j,b)/\(ops[j]?).bind (·.dst)=some t:=by exact ⟨rfl,rfl⟩) (hv:lk l t=some u:=by exact rfl) (hr:(yl u==some b)=false/\o.dst=some d/\Nat.blt d N=true:=by exact ⟨rfl,rfl,rfl⟩):Step (wL P N ops Q (o::rest) l w) (wL P N ops Q rest ((d,undef)::l) w):=XU (wg hg.1 hg.2 hv hr.1) hr.2.1 hr.2.2
theorem atz (hg:o.guard=some (j,b)/\(ops[j]?).bind (·.dst)=some t:=by exact ⟨rfl,rfl⟩) (hv:lk l t=some u:=by exact rfl) (hr:(yl u==some b)=false/\o.dst=some d/\Nat.blt d N=true:=by exact ⟨rfl,rfl,rfl⟩):Step (wU P N ops C Qa (o::rest) l) (wU P N ops C Qa rest ((d,undef)::l)):=agn (wg hg.1 hg.2 hv hr.1) hr.2.1 hr.2.2
theorem atA (hr:Region.ready .any ops listed=[]):Step (wA P N ops Q C n listed l w) (wQ N Q .normal l w):=agp hr
theorem anD {G:Prop} (h:G:=by first | assumption | exact St.fit (by assumption)):Step (G/\A) A:=And.intro h
end
inductive Steps:Nat->Prop->Prop->Prop
 | z {A:Prop}:Steps 0 A A
 | s {n:Nat} {A B C:Prop}:Step A B->Steps n B C->Steps (n+1) A C
theorem Steps.go {n:Nat} {A B:Prop} (h:Steps n A B):B->A:=by
 induction h with
 | z=>exact id
 | s h _ ih=>exact λb=>h (ih b)
theorem sQ {A B:Prop} (hs:Step A B:=by first | with_reducible exact atv | ((with_reducible apply gLQ);first | exact q1Q | exact q2Q | exact aty) | with_reducible exact s1Q | with_reducible exact s2Q | with_reducible exact s3Q | with_reducible exact s4Q | with_reducible exact s5Q | with_reducible exact s6Q | with_reducible exact s7Q | with_reducible exact s8Q | with_reducible exact s9Q | with_reducible exact atr | with_reducible exact att | with_reducible exact atu | ((with_reducible refine atw ?_);exact rfl) | ((with_reducible refine atx ?_);exact rfl) | ((with_reducible apply gUQ);first | exact q3Q | exact q4Q | exact atz) | ((with_reducible apply gQQ);first | exact p1Q | exact ato | exact p2Q | exact atn | exact p3Q | exact atp | exact p0Q | exact atm | exact atq)):Step A B:=hs
theorem zQ {A B:Prop} (h:B) (hs:Step A B:=by exact sQ):A:=hs h
theorem zN {A B:Prop} (n:Nat) (h:B) (hs:Steps n A B:=by repeat' first | exact Steps.z | apply Steps.s | exact sQ):A:=hs.go h
theorem sQa {A B:Prop} (hs:Step A B:=by first | ((with_reducible apply gAQ);first | exact Yd 0 | exact Yf 0 | exact Yg 0 | exact Yd 1 | exact Yf 1 | exact Yg 1 | exact Yd 2 | exact Yf 2 | exact Yg 2 | exact Yd 3 | exact Yf 3 | exact Yg 3 | exact Yd 4 | exact Yf 4 | exact Yg 4 | exact Yd 5 | exact Yf 5 | exact Yg 5 | exact Yd 6 | exact Yf 6 | exact Yg 6 | exact Yd 7 | exact Yf 7 | exact Yg 7 | exact Yd 8 | exact Yf 8 | exact Yg 8 | exact Yd 9 | exact Yf 9 | exact Yg 9) | ((with_reducible apply atA);kernel_rfl) | exact anD):Step A B:=hs
theorem bZ {A B:Prop} (h:B) (hs:Step A B:=by exact sQa):A:=hs h
theorem aJ {A B:Prop} (n:Nat) (h:B) (hs:Steps n A B:=by repeat' first | exact Steps.z | apply Steps.s | exact sQa):A:=hs.go h
theorem gM {A B:Prop} (h:B) (hs:Step A B:=by first | ((with_reducible apply gGQ);first | exact Ye 0 | exact Yh 0 | exact Iw 0 | exact Ye 1 | exact Yh 1 | exact Iw 1 | exact Ye 2 | exact Yh 2 | exact Iw 2 | exact Ye 3 | exact Yh 3 | exact Iw 3 | exact Ye 4 | exact Yh 4 | exact Iw 4 | exact Ye 5 | exact Yh 5 | exact Iw 5 | exact Ye 6 | exact Yh 6 | exact Iw 6 | exact Ye 7 | exact Yh 7 | exact Iw 7 | exact Ye 8 | exact Yh 8 | exact Iw 8 | exact Ye 9 | exact Yh 9 | exact Iw 9) | exact anD):A:=hs h
section
variable {t:TypeId} {row:Array Value}
def uw (P:Program) (t:TypeId) (row:Array Value):Prop:= ∃ z,(∀ w,(zeroValue t).run P w= .ok z w)/\z.cells=row
theorem fF (S:St B w0 w fs) (hz:uw P t row) (h: ∀ b w',St B w0 w' (.blk b row t::fs)->wL P N ops Q rest ((d,.pointer (some ⟨b,0,none⟩))::l) w') (hw:o.guard=none/\o.dst=some d/\Nat.blt d N=true/\o.op= .alloc t:=by exact ⟨rfl,rfl,rfl,rfl⟩):wL P N ops Q (o::rest) l w:=by
 obtain ⟨z,h1,h2⟩:=hz;exact lN (V:=λb=> .pointer (some ⟨b,0,none⟩)) S (wn hw.1) hw.2.1 hw.2.2.1 (jf hw.2.2.2 (h1 w) h2) h
theorem kU {C:World->Prop} {n:Nat} {ls ls':List Bool} (j:Nat) (hi':ops[j]? =some o) (S:St B w0 w fs) (hz:uw P t row) (h: ∀ b w',St B w0 w' (.blk b row t::fs)->C w'/\wA P N ops Q C n ls'.toArray ((d,.pointer (some ⟨b,0,none⟩))::l) w') (hl:qH ls j ls':=by repeat' first | exact qH.z | apply qH.s) (hw:o.guard=none/\o.dst=some d/\Nat.blt d N=true/\o.op= .alloc t:=by exact ⟨rfl,rfl,rfl,rfl⟩):wK P N ops Q C n j ls.toArray l w:=by
 obtain ⟨z,h1,h2⟩:=hz;exact jM (V:=λb=> .pointer (some ⟨b,0,none⟩)) hi' hl.eq S (wn hw.1) hw.2.1 hw.2.2.1 (jf hw.2.2.2 (h1 w) h2) h
end
theorem zr3:uw Tryz.prog 3 #[.int .i64 0]:=⟨_,Tryz.zeroValue3,rfl⟩
theorem En:uw Tryz.prog 32 #[.int .i64 0,.int .i64 0]:=⟨_,Tryz.zeroValue32,rfl⟩
theorem aft:uw Tryz.prog 35 #[.int .i64 0,.int .i64 0,.int .i64 0,.int .i64 0,.int .i64 0,.int .i64 0,.int .i64 0,.int .i64 0]:=⟨_,Tryz.zeroValue35,rfl⟩
theorem QX:uw Tryz.prog 40 #[.int .i64 0,.bool false,.bool false,.bool false,.bool false,.bool false,.int .i64 0,.int .i64 0,.int .i64 0,.int .i64 0,.int .i64 0,.int .i64 0,.int .i64 0,.int .i64 0,.slice none 0 0,.slice none 0 0,.slice none 0 0,.int .i64 0]:=⟨_,Tryz.zeroValue40,rfl⟩
theorem fE:uw Tryz.prog 43 #[.int .i64 0,.int .i64 0,.int .i64 0,.int .i64 0,.int .i64 0,.slice none 0 0]:=⟨_,Tryz.zeroValue43,rfl⟩
theorem ajJ:uw Tryz.prog 166 #[.int .i64 0,.bool false,.bool false,.bool false,.bool false,.bool false,.bool false,.bool false,.bool false]:=⟨_,Tryz.zeroValue166,rfl⟩
theorem Zt:uw Tryz.prog 53 #[.int .i64 0,.int .i64 0,.int .i64 0,.int .i64 0,.int .i64 0,.int .i64 0]:=⟨_,Tryz.zeroValue53,rfl⟩
theorem afu:uw Tryz.prog 57 #[.int .i64 0,.int .i64 0,.int .i64 0,.int .i64 0,.int .i64 0,.int .i64 0,.int .i64 0,.int .i64 0,.int .i64 0,.int .i64 0,.int .i64 0]:=⟨_,Tryz.zeroValue57,rfl⟩
theorem sW:uw Tryz.prog 101 #[.int .i64 0,.int .i64 0,.int .i64 0,.int .i64 0]:=⟨_,Tryz.zeroValue101,rfl⟩
theorem atB:uw Tryz.prog 103 #[.int .i64 0,.int .i64 0,.int .i64 0,.int .i64 0,.int .i64 0,.int .i64 0,.int .i64 0]:=⟨_,Tryz.zeroValue103,rfl⟩
theorem atC:uw Tryz.prog 209 #[.int .i64 0,.int .i64 0]:=⟨_,Tryz.zeroValue209,rfl⟩
theorem anE:uw Tryz.prog 212 #[.int .i64 0,.int .i64 0,.int .i64 0,.int .i64 0]:=⟨_,Tryz.zeroValue212,rfl⟩
theorem yY:uw Tryz.prog 83 #[.slice none 0 0,.int .i64 0]:=⟨_,Tryz.zeroValue83,rfl⟩
theorem aqO:uw Tryz.prog 87 #[.int .i64 0,.bool false,.slice none 0 0,.int .i64 0,.slice none 0 0,.int .i64 0,.int .i64 0,.int .i64 0,.int .i64 0,.int .i64 0,.int .i64 0,.int .i64 0,.int .i64 0,.bool false,.bool false,.bool false,.bool false,.slice none 0 0,.nilFunc,.int .i64 0]:=⟨_,Tryz.zeroValue87,rfl⟩
theorem Fa:uw Tryz.prog 96 #[.pointer none,.int .i64 0]:=⟨_,Tryz.zeroValue96,rfl⟩
theorem abX:uw Tryz.prog 105 #[.int .i64 0,.int .i64 0,.int .i64 0,.int .i64 0,.int .i64 0,.int .i64 0,.int .i64 0,.int .i64 0,.int .i64 0,.int .i64 0,.int .i64 0,.int .i64 0,.int .i64 0,.slice none 0 0,.bool false,.int .i64 0,.int .i64 0,.int .i64 0,.int .i64 0,.int .i64 0,.int .i64 0,.int .i64 0,.int .i64 0]:=⟨_,Tryz.zeroValue105,rfl⟩
theorem wX:uw Tryz.prog 124 #[.int .i64 0,.int .i64 0,.int .i64 0,.int .i64 0,.int .i64 0,.int .i64 0,.int .i64 0,.int .i64 0,.int .i64 0,.int .i64 0]:=⟨_,Tryz.zeroValue124,rfl⟩
theorem aqP:uw Tryz.prog 176 #[.nilFunc]:=⟨_,Tryz.zeroValue176,rfl⟩
theorem lI {a b:Nat} (h:a<=b:=by first | assumption | exact Nat.zero_le _ | (dsimp only;omega) | (simp only [List.length_append,List.length_cons,List.length_nil,List.length_drop,List.length_take] at*;omega)):a<=b:=h
inductive Out:List Fact->Nat->Fact->List Fact->Prop
 | z {f:Fact} {fs:List Fact}:Out (f::fs) 0 f fs
 | s {f g:Fact} {fs gs:List Fact} {i:Nat}:Out fs i f gs->Out (g::fs) (i+1) f (g::gs)
theorem Out.eq {fs gs:List Fact} {i:Nat} {f:Fact} (h:Out fs i f gs):fs[i]? =some f/\fs.eraseIdx i=gs:=by
 induction h with
 | z=>exact ⟨rfl,rfl⟩
 | s _ ih=>exact ⟨by simpa using ih.1,by rw [List.eraseIdx_cons_succ,ih.2]⟩
inductive Brs:List Fact->List Nat->List Fact->Prop
 | z {fs:List Fact}:Brs fs [] fs
 | s {fs gs hs:List Fact} {i:Nat} {is:List Nat} {f:Fact}:Out fs i f gs->Brs (f::gs) is hs->Brs fs (i::is) hs
theorem St.dW {gs:List Fact} (S:St B w0 w fs) (is:List Nat) (h:Brs fs is gs:=by repeat' first | exact Brs.z | exact Out.z | apply Brs.s | apply Out.s):St B w0 w gs:=by
 induction h with
 | z=>exact S
 | s h _ ih=>
  obtain ⟨h1,h2⟩:=h.eq;have:=S.bring _ h1;rw [h2] at this;exact ih this
inductive RI:List Fact->List Nat->List Fact->Prop
 | z {fs:List Fact}:RI fs [] fs
 | s {fs gs hs:List Fact} {i:Nat} {is:List Nat} {f:Fact}:Out fs i f gs->RI gs is hs->RI fs (i::is) hs
theorem St.aS {gs:List Fact} (S:St B w0 w fs) (is:List Nat) (h:RI fs is gs:=by repeat' first | exact RI.z | exact Out.z | apply RI.s | apply Out.s):St B w0 w gs:=by
 induction h with
 | z=>exact S
 | s h _ ih=>
  refine ih ?_;rw [<-h.eq.2];exact S.del _
section
variable {id n m:Nat} {os:List Oper} {gs:List Fact}
theorem aF (n:Nat) (S:St B w0 w.drew gs) (is:List Nat) (h:wA P N os.toArray Q (λw'=>St B w0 w' fs) n (List.replicate n false).toArray l w.drew) (hd:RI gs is fs:=by repeat' first | exact RI.z | exact Out.z | apply RI.s | apply Out.s) (hm:P.follows .mixedOrders=true:=by exact mixed) (hn:os.length=n:=by exact rfl):wC P N (.region id os.toArray true) Q l w:=Ip hm hn (by simp) h
theorem fq (m n:Nat) (S:St B w0 w.drew gs) (is:List Nat) (h:wG P N os.toArray Q (λw'=>St B w0 w' fs) n m (List.replicate m false).toArray l w.drew) (hd:RI gs is fs:=by repeat' first | exact RI.z | exact Out.z | apply RI.s | apply Out.s) (hm:P.follows .mixedOrders=true:=by exact mixed) (hn:os.length=m:=by exact rfl):wC P N (.region id os.toArray true) Q l w:=Ao n hm hn (by simp) h
end
inductive Ct:List Value->Nat->List Value->List Value->Prop
 | n {l:List Value}:Ct l 0 [] l
 | c {x y:Value} {l cs l':List Value}:Ct l 0 cs l'->Ct (x::l) 0 (y::cs) (y::l')
 | s {x:Value} {i:Nat} {l cs l':List Value}:Ct l i cs l'->Ct (x::l) (i+1) cs (x::l')
theorem Ct.spec {l cs l':List Value} {i:Nat} (h:Ct l i cs l'):i+cs.length<=l.length/\l.take i++cs++l.drop (i+cs.length)=l':=by
 induction h with
 | n=>simp
 | c _ ih=>obtain ⟨h1,h2⟩:=ih;simp only [List.take_zero,List.nil_append,Nat.zero_add,List.length_cons,List.cons_append,List.drop_succ_cons] at h1 h2⊢;exact ⟨by omega,by rw [h2]⟩
 | @s x i l cs l' _ ih=>obtain ⟨h1,h2⟩:=ih;refine ⟨by simp;omega,?_⟩;rw [show i+1+cs.length=(i+cs.length)+1 by omega,List.take_succ_cons,List.drop_succ_cons,List.cons_append,List.cons_append,h2]
theorem Ct.eq {l cs l':List Value} {i:Nat} (h:Ct l i cs l'):cu l.toArray i cs=l'.toArray:=by
 obtain ⟨h1,h2⟩:=h.spec;apply Array.toList_inj.1;rw [gU _ _ _ (by simpa using h1)];simpa using h2
section
variable {b m off:Nat} {rw_ rw':List Value} {cs:Array Value} {t ty:TypeId} {x y:Operand}
theorem G8 (i:Nat) (S:St B w0 w fs) (hz:(P.info? ty).map (·.size)=some m) (h: ∀ w',St B w0 w' fs'->wL P N ops Q rest l w') (hw:o.guard=none/\o.dst=none/\o.op= .store ty x y/\ev l x=some (.pointer (some ⟨b,off,none⟩))/\ev l y=some v:=by exact ⟨rfl,rfl,rfl,rfl,rfl⟩) (hi:fs[i]? =some (.blk b rw_.toArray t):=by exact rfl) (hv:v.cells=cs:=by exact rfl) (hm:cs.size=m:=by exact rfl) (h1: ∀ u∈cs.toList,u.oneCell'=true:=by exact bX rfl) (hr:Nat.ble (off+m) rw_.toArray.size=true:=by exact rfl) (hs:Ct rw_ off cs.toList rw':=by repeat' first | exact Ct.n | apply Ct.c | apply Ct.s) (hf:iJ (.blk b rw'.toArray t) fs i fs':=by repeat' first | exact iJ.z | apply iJ.s):wL P N ops Q (o::rest) l w:=Co i S (wn hw.1) hw.2.1 hw.2.2.1 hw.2.2.2.1 hw.2.2.2.2 hi hv hz hm h1 (Nat.le_of_ble_eq_true hr) hs.eq hf.eq h
end
section
variable {C:World->Prop} {n:Nat} {ls ls':List Bool} {row:Array Value} {t tt:TypeId} {x:Operand}
theorem iK (S:St B w0 w fs) (h: ∀ b w',St B w0 w' (.blk b row t::fs)->wL P N ops Q rest ((d,.pointer (some ⟨b,0,none⟩))::l) w') (hw:o.guard=none/\o.dst=some d/\Nat.blt d N=true/\o.op= .box t x/\ev l x=some (.agg row):=by exact ⟨rfl,rfl,rfl,rfl,rfl⟩):wL P N ops Q (o::rest) l w:=lN (V:=λb=> .pointer (some ⟨b,0,none⟩)) S (wn hw.1) hw.2.1 hw.2.2.1 (abL hw.2.2.2.1 hw.2.2.2.2 rfl) h
theorem UG (S:St B w0 w fs) (h: ∀ b w',St B w0 w' (.blk b #[v] t::fs)->wL P N ops Q rest ((d,.pointer (some ⟨b,0,none⟩))::l) w') (hw:o.guard=none/\o.dst=some d/\Nat.blt d N=true/\o.op= .box t x/\ev l x=some v:=by exact ⟨rfl,rfl,rfl,rfl,rfl⟩) (hv:v.cells= #[v]:=by exact rfl):wL P N ops Q (o::rest) l w:=lN (V:=λb=> .pointer (some ⟨b,0,none⟩)) S (wn hw.1) hw.2.1 hw.2.2.1 (abL hw.2.2.2.1 hw.2.2.2.2 hv) h
theorem Zu (S:St B w0 w fs) (h: ∀ b w',St B w0 w' (.blk b row tt::fs)->wL P N ops Q rest ((d,.slice (some ⟨b,0,none⟩) 1 1)::l) w') (hw:o.guard=none/\o.dst=some d/\Nat.blt d N=true/\o.op= .buildSlice t 1 [(0,x)].toArray/\ev l x=some (.agg row):=by exact ⟨rfl,rfl,rfl,rfl,rfl⟩) (hu:P.underlying t=some (.slice tt):=by exact UF) (hr:(Instr.buildSlice t 1 [(0,Value.agg row)].toArray).run P w= .ok (.slice (some ⟨w.heap.size,0,none⟩) 1 1) (w.alloc (.cells row tt)):=by kernel_rfl):wL P N ops Q (o::rest) l w:=lN (V:=λb=> .slice (some ⟨b,0,none⟩) 1 1) S (wn hw.1) hw.2.1 hw.2.2.1 (aV (vs:=[(0,.agg row)]) hw.2.2.2.1 ⟨rfl,hw.2.2.2.2,trivial⟩ hr) h
theorem bsI (S:St B w0 w fs) (h: ∀ b w',St B w0 w' (.blk b #[v] tt::fs)->wL P N ops Q rest ((d,.slice (some ⟨b,0,none⟩) 1 1)::l) w') (hw:o.guard=none/\o.dst=some d/\Nat.blt d N=true/\o.op= .buildSlice t 1 [(0,x)].toArray/\ev l x=some v:=by exact ⟨rfl,rfl,rfl,rfl,rfl⟩) (hu:P.underlying t=some (.slice tt):=by exact UF) (hr:(Instr.buildSlice t 1 [(0,v)].toArray).run P w= .ok (.slice (some ⟨w.heap.size,0,none⟩) 1 1) (w.alloc (.cells #[v] tt)):=by kernel_rfl):wL P N ops Q (o::rest) l w:=lN (V:=λb=> .slice (some ⟨b,0,none⟩) 1 1) S (wn hw.1) hw.2.1 hw.2.2.1 (aV (vs:=[(0,v)]) hw.2.2.2.1 ⟨rfl,hw.2.2.2.2,trivial⟩ hr) h
theorem F9 (j:Nat) (hi':ops[j]? =some o) (S:St B w0 w fs) (h: ∀ b w',St B w0 w' (.blk b row tt::fs)->C w'/\wA P N ops Q C n ls'.toArray ((d,.slice (some ⟨b,0,none⟩) 1 1)::l) w') (hl:qH ls j ls':=by repeat' first | exact qH.z | apply qH.s) (hw:o.guard=none/\o.dst=some d/\Nat.blt d N=true/\o.op= .buildSlice t 1 [(0,x)].toArray/\ev l x=some (.agg row):=by exact ⟨rfl,rfl,rfl,rfl,rfl⟩) (hu:P.underlying t=some (.slice tt):=by exact UF) (hr:(Instr.buildSlice t 1 [(0,Value.agg row)].toArray).run P w= .ok (.slice (some ⟨w.heap.size,0,none⟩) 1 1) (w.alloc (.cells row tt)):=by kernel_rfl):wK P N ops Q C n j ls.toArray l w:=jM (V:=λb=> .slice (some ⟨b,0,none⟩) 1 1) hi' hl.eq S (wn hw.1) hw.2.1 hw.2.2.1 (aV (vs:=[(0,.agg row)]) hw.2.2.2.1 ⟨rfl,hw.2.2.2.2,trivial⟩ hr) h
end
inductive xE (l:Slots):List Operand->List Value->Prop
 | z:xE l [] []
 | s {x:Operand} {xs:List Operand} {v:Value} {vs:List Value}:ev l x=some v->xE l xs vs->xE l (x::xs) (v::vs)
theorem xE.evs {xs:List Operand} {vs:List Value} (h:xE l xs vs):PN l xs vs:=by
 induction h with
 | z=>exact trivial
 | s h _ ih=>exact ⟨h,ih⟩
section
variable {f:FuncId} {first cap us vs:List Value} {x:Operand} {xs ys:List Operand} {ts:Array TypeId} {R:Ending->World->Prop}
theorem vV (Ms: ∀ args w,(callFunc f args).run P w= .ok (.enter f args) w) (hc:Calls P f us.toArray w R) (h: ∀ e w',R e w'-> ∃ v,e= .returned v/\wL P N ops Q rest ((d,v)::l) w') (hw:o.guard=none/\o.dst=some d/\Nat.blt d N=true/\o.op= .call { callee:= .value x,args:=xs.toArray,argTypes:=ts }:=by exact ⟨rfl,rfl,rfl,rfl⟩) (hv:ev l x=some (.func (.func f) first.toArray cap.toArray):=by exact rfl) (hx:xE l xs vs:=by repeat' first | exact xE.z | apply xE.s rfl) (hu:first++vs++cap=us:=by exact rfl):wL P N ops Q (o::rest) l w:=Im (wn hw.1) hw.2.1 hw.2.2.1 (Yc hw.2.2.2 hv Ms hx.evs hu) hc h
theorem kK {C:World->Prop} {n:Nat} {ls ls':List Bool} (j:Nat) (hi':ops[j]? =some o) (Ms: ∀ args w,(callFunc f args).run P w= .ok (.enter f args) w) (hc:Calls P f us.toArray w R) (h: ∀ e w',R e w'-> ∃ v,e= .returned v/\C w'/\wA P N ops Q C n ls'.toArray ((d,v)::l) w') (hl:qH ls j ls':=by repeat' first | exact qH.z | apply qH.s) (hw:o.guard=none/\o.dst=some d/\Nat.blt d N=true/\o.op= .call { callee:= .value x,args:=xs.toArray,argTypes:=ts }:=by exact ⟨rfl,rfl,rfl,rfl⟩) (hv:ev l x=some (.func (.func f) first.toArray cap.toArray):=by exact rfl) (hx:xE l xs vs:=by repeat' first | exact xE.z | apply xE.s rfl) (hu:first++vs++cap=us:=by exact rfl):wK P N ops Q C n j ls.toArray l w:=nT hi' hl.eq (wn hw.1) hw.2.1 hw.2.2.1 (Yc hw.2.2.2 hv Ms hx.evs hu) hc h
theorem iO {C:World->Prop} {n:Nat} {ls ls':List Bool} (j:Nat) (hi':ops[j]? =some o) (Ms: ∀ args w,(callFunc f args).run P w= .ok (.enter f args) w) (hc:Calls P f vs.toArray w R) (h: ∀ e w',R e w'-> ∃ v,e= .returned v/\C w'/\wA P N ops Q C n ls'.toArray ((d,v)::l) w') (hl:qH ls j ls':=by repeat' first | exact qH.z | apply qH.s) (hw:o.guard=none/\o.dst=some d/\Nat.blt d N=true/\(o.op= .call { callee:= .value (.func f),args:=xs.toArray,argTypes:=ts }):=by exact ⟨rfl,rfl,rfl,rfl⟩) (hx:PN l xs vs:=by repeat' first | exact trivial | refine ⟨rfl,?_⟩):wK P N ops Q C n j ls.toArray l w:=nT hi' hl.eq (wn hw.1) hw.2.1 hw.2.2.1 (iB hw.2.2.2 Ms hx) hc h
theorem Jl {g:Fn} (ho:o.op= .makeFunc g xs.toArray ys.toArray:=by exact rfl) (hx:xE l xs vs:=by repeat' first | exact xE.z | apply xE.s rfl) (hy:xE l ys us:=by repeat' first | exact xE.z | apply xE.s rfl):gW P N l o w (.func g vs.toArray us.toArray):=KF ho hx.evs hy.evs
end
inductive Nt (l:Slots):List (Nat×Operand)->List (Nat×Value)->Prop
 | z:Nt l [] []
 | s {i:Nat} {x:Operand} {xs:List (Nat×Operand)} {v:Value} {vs:List (Nat×Value)}:ev l x=some v->Nt l xs vs->Nt l ((i,x)::xs) ((i,v)::vs)
theorem Nt.evp {xs:List (Nat×Operand)} {vs:List (Nat×Value)} (h:Nt l xs vs):EvP l xs vs:=by
 induction h with
 | z=>exact trivial
 | s h _ ih=>exact ⟨rfl,h,ih⟩
theorem gF {t:TypeId} {xs:List (Nat×Operand)} {vs:List (Nat×Value)} (ho:o.op= .build t xs.toArray:=by exact rfl) (hx:Nt l xs vs:=by repeat' first | exact Nt.z | apply Nt.s rfl) (hr:(Instr.build t vs.toArray).run P w= .ok v w:=by kernel_rfl):gW P N l o w v:=DC ho hx.evp hr
section
variable {kd:IntKind} {xo yo:Operand} {x y z:Int} {t tt:TypeId}
theorem gD (ho:o.op= .binOp .add t xo yo tt/\ev l xo=some (.int .i64 x)/\ev l yo=some (.int .i64 y):=by exact ⟨rfl,rfl,rfl⟩) (hz:x+y=z:=by omega) (h: -9223372036854775808<=z/\z<=9223372036854775807:=by omega):gW P N l o w (.int .i64 z):=aL ho.1 ho.2.1 ho.2.2 (yV hz h)
theorem ysu (ho:o.op= .binOp .sub t xo yo tt/\ev l xo=some (.int .i64 x)/\ev l yo=some (.int .i64 y):=by exact ⟨rfl,rfl,rfl⟩) (hz:x-y=z:=by omega) (h: -9223372036854775808<=z/\z<=9223372036854775807:=by omega):gW P N l o w (.int .i64 z):=aL ho.1 ho.2.1 ho.2.2 (apR hz h)
theorem jd {p e:TypeId} {b off n c s:Nat} {i:Int} {xo yo:Operand} (k:Nat) (ho:o.op= .indexAddr p xo yo/\ev l xo=some (.slice (some ⟨b,off,none⟩) n c)/\ev l yo=some (.int kd i):=by exact ⟨rfl,rfl,rfl⟩) (hu:P.underlying p=some (.slice e):=by exact UF) (hz:(P.info? e).map (·.size)=some s:=by exact iiQ) (hik:i=k:=by first | rfl | omega | simp) (hk:k<n:=by first | omega | simp | decide):gW P N l o w (.pointer (some ⟨b,off+k*s,none⟩)):=aO ho.1 ho.2.1 ho.2.2 (AU k hu hz hik hk)
end
section
variable {b m off:Nat} {row row' cs:Array Value} {t ty:TypeId} {x y:Operand} {C:World->Prop} {n:Nat} {ls ls':List Bool}
theorem jw (i:Nat) (S:St B w0 w fs) (hz:(P.info? ty).map (·.size)=some m) (h: ∀ w',St B w0 w' fs'->wL P N ops Q rest l w') (hw:o.guard=none/\o.dst=none/\o.op= .store ty x y/\ev l x=some (.pointer (some ⟨b,off,none⟩))/\ev l y=some v:=by exact ⟨rfl,rfl,rfl,rfl,rfl⟩) (hi:fs[i]? =some (.blk b row t):=by exact rfl) (hv:v.cells=cs:=by exact rfl) (hm:cs.size=m:=by exact rfl) (h1: ∀ u∈cs.toList,u.oneCell'=true:=by exact bX rfl) (hr:Nat.ble (off+m) row.size=true:=by exact rfl) (hs:cu row off cs.toList=row':=by exact rfl) (hf:iJ (.blk b row' t) fs i fs':=by repeat' first | exact iJ.z | apply iJ.s):wL P N ops Q (o::rest) l w:=Co i S (wn hw.1) hw.2.1 hw.2.2.1 hw.2.2.2.1 hw.2.2.2.2 hi hv hz hm h1 (Nat.le_of_ble_eq_true hr) hs hf.eq h
theorem stA (i:Nat) (S:St B w0 w fs) (hz:(P.info? ty).map (·.size)=some m) (h: ∀ w',St B w0 w' fs'->wL P N ops Q rest l w') (hw:o.guard=none/\o.dst=none/\o.op= .store ty x y/\ev l x=some (.pointer (some ⟨b,0,none⟩))/\ev l y=some v:=by exact ⟨rfl,rfl,rfl,rfl,rfl⟩) (hi:fs[i]? =some (.blk b row t):=by exact rfl) (hv:v.cells=cs:=by exact rfl) (hm:cs.size=m:=by exact rfl) (h1: ∀ u∈cs.toList,u.oneCell'=true:=by exact bX rfl) (hs:row.size=cs.size:=by exact rfl) (hr:Nat.ble (0+m) row.size=true:=by exact rfl) (hf:iJ (.blk b cs t) fs i fs':=by repeat' first | exact iJ.z | apply iJ.s):wL P N ops Q (o::rest) l w:=Co i S (wn hw.1) hw.2.1 hw.2.2.1 hw.2.2.2.1 hw.2.2.2.2 hi hv hz hm h1 (Nat.le_of_ble_eq_true hr) (qU hs) hf.eq h
theorem snz (j:Nat) (hi':ops[j]? =some o) (i:Nat) (S:St B w0 w fs) (hz:(P.info? ty).map (·.size)=some m) (h: ∀ w',St B w0 w' fs'->C w'/\wA P N ops Q C n ls'.toArray l w') (hl:qH ls j ls':=by repeat' first | exact qH.z | apply qH.s) (hw:o.guard=none/\o.dst=none/\o.op= .store ty x y/\ev l x=some (.pointer (some ⟨b,off,none⟩))/\ev l y=some v:=by exact ⟨rfl,rfl,rfl,rfl,rfl⟩) (hi:fs[i]? =some (.blk b row t):=by exact rfl) (hv:v.cells=cs:=by exact rfl) (hm:cs.size=m:=by exact rfl) (h1: ∀ u∈cs.toList,u.oneCell'=true:=by exact bX rfl) (hr:Nat.ble (off+m) row.size=true:=by exact rfl) (hs:cu row off cs.toList=row':=by exact rfl) (hf:iJ (.blk b row' t) fs i fs':=by repeat' first | exact iJ.z | apply iJ.s):wK P N ops Q C n j ls.toArray l w:=uo hi' hl.eq i S (wn hw.1) hw.2.1 hw.2.2.1 hw.2.2.2.1 hw.2.2.2.2 hi hv hz hm h1 (Nat.le_of_ble_eq_true hr) hs hf.eq h
theorem Zv (j:Nat) (hi':ops[j]? =some o) (i:Nat) (S:St B w0 w fs) (hz:(P.info? ty).map (·.size)=some m) (h: ∀ w',St B w0 w' fs'->C w'/\wA P N ops Q C n ls'.toArray l w') (hl:qH ls j ls':=by repeat' first | exact qH.z | apply qH.s) (hw:o.guard=none/\o.dst=none/\o.op= .store ty x y/\ev l x=some (.pointer (some ⟨b,0,none⟩))/\ev l y=some v:=by exact ⟨rfl,rfl,rfl,rfl,rfl⟩) (hi:fs[i]? =some (.blk b row t):=by exact rfl) (hv:v.cells=cs:=by exact rfl) (hm:cs.size=m:=by exact rfl) (h1: ∀ u∈cs.toList,u.oneCell'=true:=by exact bX rfl) (hs:row.size=cs.size:=by exact rfl) (hr:Nat.ble (0+m) row.size=true:=by exact rfl) (hf:iJ (.blk b cs t) fs i fs':=by repeat' first | exact iJ.z | apply iJ.s):wK P N ops Q C n j ls.toArray l w:=uo hi' hl.eq i S (wn hw.1) hw.2.1 hw.2.2.1 hw.2.2.2.1 hw.2.2.2.2 hi hv hz hm h1 (Nat.le_of_ble_eq_true hr) (qU hs) hf.eq h
end
end
end
section
open ChangeShapes WideShapes ChangeAt RowKit
theorem RJ {α:Type} {enc:α->List Value} {sz:Nat} (hsz: ∀ x,(enc x).length=sz): ∀ (k:Nat) (l:List α),(l.flatMap enc).drop (k*sz)=(l.drop k).flatMap enc
 | 0,l=>by simp
 | k+1,[]=>by simp
 | k+1,x::l=>by rw [List.flatMap_cons,Nat.succ_mul,Nat.add_comm,<-List.drop_drop,List.drop_left' (hsz x),RJ hsz k l];rfl
theorem RL {α:Type} {enc:α->List Value} {sz:Nat} (hsz: ∀ x,(enc x).length=sz): ∀ (k:Nat) (l:List α),(l.flatMap enc).take (k*sz)=(l.take k).flatMap enc
 | 0,l=>by simp
 | k+1,[]=>by simp
 | k+1,x::l=>by rw [List.flatMap_cons,Nat.succ_mul,Nat.add_comm,List.take_append,hsz x,List.take_of_length_le (by rw [hsz x];omega),Nat.add_sub_cancel_left,RL hsz k l];rfl
theorem Ch {P:Program} {t e:TypeId} {α:Type} {enc:α->List Value} {s:Nat} (hsz: ∀ x,(enc x).length=s) {A:Option Addr} {b:List α} {n c:Nat} {lo hi mx:Option Value} {l k q m c':Nat} (hu:P.underlying t=some (.slice e)) (hz:(P.info? e).map (·.size)=some s) (hb: ∀ w,(Instr.sliceBounds true n c lo hi mx).run P w= .ok (l,k,q) w)
  (hlk:l<=k) (hkn:k<=n) (hkq:k<=q) (hm:k-l=m) (hc:q-l=c'): ∃ A',(∀ w,(Instr.sliceAt t (.slice A n c) lo hi mx).run P w= .ok (.slice A' m c') w)/\(∀ (w:World) (B:Nat),Rd w B s A n (b.flatMap enc)->Rd w B s A' m (((b.drop l).take m).flatMap enc))/\ ∀ a',A'=some a'-> ∃ a,A=some a/\a.block=a'.block:=by
 subst hm;subst hc;obtain ⟨A',h1,h2,h3⟩:=AZ (A:=A) hu hz hb hlk hkn hkq;refine ⟨A',h1,λw B hR=>?_,h3⟩
 replace h2:=h2 w B _ hR
 rw [RJ hsz,RL hsz] at h2;exact h2
end
section
open ChangeShapes WideShapes RowKit
structure Ac where
 kd:Int
 nd:Int
 qu:Int
 at_:Int
 kp:Int
 ek:Int
 ep:Int
 ei:Int
 eb:Int
 eh:Int
 en:Int
def Ac.ints (x:Ac):List Int:=[x.kd,x.nd,x.qu,x.at_,x.kp,x.ek,x.ep,x.ei,x.eb,x.eh,x.en]
def Mf (l:List Int):List Value:=l.map (Value.int .i64)
def Ac.cells (x:Ac):List Value:=[iV x.kd,iV x.nd,iV x.qu,iV x.at_,iV x.kp,iV x.ek,iV x.ep,iV x.ei,iV x.eb,iV x.eh,iV x.en]
theorem Ac.adz (x:Ac):x.cells=Mf x.ints:=rfl
def Ac.get (x:Ac) (i:Nat):Int:=x.ints.getD i 0
theorem Ac.cell (x:Ac) {i:Nat} (h:i<11):x.cells[i]? =some (iV (x.get i)):=by
 rw [Ac.adz,Mf,List.getElem?_map,List.getElem?_eq_getElem (by exact h)];have e:x.get i=x.ints[i]'h:=by simp only [Ac.get,List.getD_eq_getElem?_getD,List.getElem?_eq_getElem (show i<x.ints.length from h),Option.getD_some];rfl
 rw [e];rfl
def bS (kd ek:Int):Option (List (Nat×Int)):=
 if kd=1 then some [(2,3),(1,4)] else if kd=10 then some [(2,3),(1,4)] else if kd=3 then some [(1,4)] else if kd=9 then some [(1,4)]
 else if kd=8 then some [(1,4),(4,100000)] else if kd=4 then some [(3,1048576)] else if kd=5 then some [(3,1048576)] else if kd=6 then some [(3,1048576)]
 else if kd=7 then some [] else if kd=2 then (if ek=1 then some [(1,4),(2,3),(6,3),(7,1073741824),(8,1000000)] else if ek=2 then some [(1,4),(2,3)]
 else if ek=3 then some [(1,4),(2,3),(9,1048576),(10,1073741824)] else none) else none
theorem kinds (kd ek:Int):kd=1\/kd=10\/kd=3\/kd=9\/kd=8\/kd=4\/kd=5\/kd=6\/kd=7\/(kd=2/\ek=1)\/(kd=2/\ek=2)\/(kd=2/\ek=3)\/bS kd ek=none:=by
 by_cases h1:kd=1
 ·simp [h1]
 by_cases h10:kd=10
 ·simp [h10]
 by_cases h3:kd=3
 ·simp [h3]
 by_cases h9:kd=9
 ·simp [h9]
 by_cases h8:kd=8
 ·simp [h8]
 by_cases h4:kd=4
 ·simp [h4]
 by_cases h5:kd=5
 ·simp [h5]
 by_cases h6:kd=6
 ·simp [h6]
 by_cases h7:kd=7
 ·simp [h7]
 by_cases h2:kd=2
 ·by_cases e1:ek=1
  ·simp [h2,e1]
  by_cases e2:ek=2
  ·simp [h2,e2]
  by_cases e3:ek=3
  ·simp [h2,e3]
  simp [bS,h2,e1,e2,e3]
 simp [bS,h2,h1,h10,h3,h9,h8,h4,h5,h6,h7]
theorem O6 {kd ek:Int} {l:List (Nat×Int)} (h:bS kd ek=some l): ∀ p∈l,1<=p.1/\p.1<11/\p.1≠5:=by
 rcases kinds kd ek with rfl | rfl | rfl | rfl | rfl | rfl | rfl | rfl | rfl | ⟨rfl,rfl⟩ | ⟨rfl,rfl⟩ | ⟨rfl,rfl⟩ | hn
 all_goals first | (rw [hn] at h;cases h;done) | (simp [bS] at h;subst h;decide)
theorem adA {kd ek:Int} {l:List (Nat×Int)} (h:bS kd ek=some l):l.length<=5:=by
 rcases kinds kd ek with rfl | rfl | rfl | rfl | rfl | rfl | rfl | rfl | rfl | ⟨rfl,rfl⟩ | ⟨rfl,rfl⟩ | ⟨rfl,rfl⟩ | hn
 all_goals first | (rw [hn] at h;cases h;done) | (simp [bS] at h;subst h;decide)
def Nu (x:Ac) (p:Nat×Int):Bool:=decide (0<=x.get p.1/\x.get p.1<=p.2)
def yZ (c:List Int) (l:List (Nat×Int)):List Int:=l.foldl (λc p=>c.set p.1 0) c
def fin (x:Ac) (l:List (Nat×Int)):List Int:=(if x.kd=2 then (yZ x.ints l).set 5 0 else yZ x.ints l).set 0 0
def zeros:List Int:=[0,0,0,0,0,0,0,0,0,0,0]
def dz (x:Ac):Int:=match bS x.kd x.ek with
 | none=>3
 | some l=>if l.all (Nu x)=true then (if fin x l=zeros then 0 else 3) else 2
def keep (x:Ac):Ac:=
 if x.kd=1 then ⟨x.kd,x.nd,x.qu,0,0,0,0,0,0,0,0⟩ else if x.kd=10 then ⟨x.kd,x.nd,x.qu,0,0,0,0,0,0,0,0⟩ else if x.kd=3 then ⟨x.kd,x.nd,0,0,0,0,0,0,0,0,0⟩ else if x.kd=9 then ⟨x.kd,x.nd,0,0,0,0,0,0,0,0,0⟩
 else if x.kd=8 then ⟨x.kd,x.nd,0,0,x.kp,0,0,0,0,0,0⟩ else if x.kd=4 then ⟨x.kd,0,0,x.at_,0,0,0,0,0,0,0⟩ else if x.kd=5 then ⟨x.kd,0,0,x.at_,0,0,0,0,0,0,0⟩ else if x.kd=6 then ⟨x.kd,0,0,x.at_,0,0,0,0,0,0,0⟩
 else if x.kd=7 then ⟨x.kd,0,0,0,0,0,0,0,0,0,0⟩ else if x.ek=1 then ⟨x.kd,x.nd,x.qu,0,0,x.ek,x.ep,x.ei,x.eb,0,0⟩ else if x.ek=2 then ⟨x.kd,x.nd,x.qu,0,0,x.ek,0,0,0,0,0⟩ else ⟨x.kd,x.nd,x.qu,0,0,x.ek,0,0,0,x.eh,x.en⟩
theorem adB {x:Ac} {l:List (Nat×Int)} (h:bS x.kd x.ek=some l):x.ints=(keep x).ints↔fin x l=zeros:=by
 obtain ⟨kd,nd,qu,at_,kp,ek,ep,ei,eb,eh,en⟩:=x
 rcases kinds kd ek with rfl | rfl | rfl | rfl | rfl | rfl | rfl | rfl | rfl | ⟨rfl,rfl⟩ | ⟨rfl,rfl⟩ | ⟨rfl,rfl⟩ | hn
 all_goals first | (dsimp only at h;rw [hn] at h;cases h) | (simp [bS] at h;subst h;simp [Ac.ints,keep,fin,yZ,zeros];try omega)
theorem aha {x y:Ac} (h:x.ints=y.ints):x=y:=by
 obtain ⟨a1,a2,a3,a4,a5,a6,a7,a8,a9,a10,a11⟩:=x;obtain ⟨b1,b2,b3,b4,b5,b6,b7,b8,b9,b10,b11⟩:=y;simpa [Ac.ints] using h
section
variable {x:Ac} {l:List (Nat×Int)}
theorem Yi (h:bS x.kd x.ek=none):dz x=3:=by unfold dz;rw [h]
theorem JR (h:bS x.kd x.ek=some l) (ha: ¬ l.all (Nu x)=true):dz x=2:=by unfold dz;rw [h];exact if_neg ha
theorem O7 (h:bS x.kd x.ek=some l) (ha:l.all (Nu x)=true) (hf: ¬ fin x l=zeros):dz x=3:=by unfold dz;rw [h];simp only [if_pos ha,if_neg hf]
theorem ai2 (h:bS x.kd x.ek=some l) (ha:l.all (Nu x)=true) (hf:fin x l=zeros):dz x=0:=by unfold dz;rw [h];simp only [if_pos ha,if_pos hf]
theorem adC {k:Nat} {p:Nat×Int} (h:l[k]? =some p) (ha:(l.take k).all (Nu x)=true) (hp:0<=x.get p.1/\x.get p.1<=p.2):(l.take (k+1)).all (Nu x)=true:=by
 rw [List.take_add_one,h,List.all_append,ha];simp [Nu,hp]
theorem Yj {k:Nat} {p:Nat×Int} (h:l[k]? =some p) (hp: ¬ (0<=x.get p.1/\x.get p.1<=p.2)): ¬ l.all (Nu x)=true:=λha=>by
 have:=List.all_eq_true.1 ha p (List.mem_of_getElem? h);simp only [Nu,decide_eq_true_eq] at this;exact hp this
theorem adD {c:List Int} {k:Nat} {p:Nat×Int} (h:l[k]? =some p):(yZ c (l.take k)).set p.1 0=yZ c (l.take (k+1)):=by
 unfold yZ;rw [List.take_add_one,h,List.foldl_append];rfl
theorem xR (c:List Int): ∀ (l:List (Nat×Int)),(yZ c l).length=c.length
 | []=>rfl
 | p::l=>by
  show (yZ (c.set p.1 0) l).length=_
  rw [xR _ l,List.length_set]
theorem RN: ∀ (l:List (Nat×Int)) (c:List Int),(∀ p∈l,1<=p.1)->(yZ c l)[0]? =c[0]?
 | [],_,_=>rfl
 | p::l,c,h=>by
  show (yZ (c.set p.1 0) l)[0]? =_
  rw [RN l _ λq hq=>h q (List.mem_cons_of_mem _ hq),List.getElem?_set_ne (by have:=h p (List.mem_cons_self ..);omega)]
end
def oV (c:List Int):Array Value:=(Mf c).toArray
theorem mG {c:List Int} (h:c.length=11):(oV c).size=11:=by simp [oV,Mf,h]
theorem Zw {c:List Int} {i:Nat} {v:Int} (h:c[i]? =some v):(oV c)[i]? =some (iV v):=by simp [oV,Mf,h]
theorem Ba {c:List Int} {i:Nat}:(oV c).setIfInBounds i (iV 0)=oV (c.set i 0):=by
 apply Array.toList_inj.1;simp [oV,Mf,Array.toList_setIfInBounds,List.map_set]
theorem ahb:flat Tryz.prog 30 57=some (List.replicate 11 (.at_ (.int .i64))):=by kernel_rfl
theorem ahc:Ij Tryz.prog 30 57=true:=by kernel_rfl
theorem amy (xs:List Value):mkV Tryz.prog 57 xs= .agg xs.toArray:=by
 unfold mkV;rw [Tryz.underlying57]
theorem acL {a b:List Int} (ha:a.length=11) (hb:b.length=11) (w:World):(binOp .neq 57 (.agg (oV a)) (.agg (oV b))).run Tryz.prog w= .ok (.bool (!decide (a=b))) w:=by
 have k1:=xQ a;have k2:=xQ b;rw [ha] at k1;rw [hb] at k2;have h:=wS (P:=Tryz.prog) w ahb ahc amy k1 k2;rw [yT (by rw [ha,hb])] at h;exact h
end
end Go.Proofs.YthhnonpehllibaaGreatDoor
