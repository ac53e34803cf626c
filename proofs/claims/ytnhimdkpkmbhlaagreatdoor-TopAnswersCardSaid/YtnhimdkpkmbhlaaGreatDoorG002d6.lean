import Derived.Test.YtnhimdkpkmbhlaaGreatDoorG9daf5
import Derived.Test.YtnhimdkpkmbhlaaGreatDoorGd4176
import Derived.Test.YtnhimdkpkmbhlaaGreatDoorGd6224
set_option maxRecDepth 100000
set_option maxHeartbeats 8000000
set_option linter.unusedSimpArgs false
set_option linter.unusedVariables false
namespace Go.Proofs.YtnhimdkpkmbhlaaGreatDoor
section
open ChangeShapes WideShapes ChangeAt RowKit
theorem iX {l:Slots} {x:Operand} {v:Value} (h:ev l x=some v):EvO l (some x) (some v):=h
theorem ng {l:Slots}:EvO l none none:=trivial
theorem alj {kd:IntKind} {a b:Int} (h:a=b):some (Value.int kd a)=some (Value.int kd b):=by rw [h]
section
variable {P:Program} {w:World} {t e:TypeId} {A:Option Addr} {n c s B:Nat} {xs:List Value} {kd ke kf:IntKind}
theorem oN {i:Int} (k y:Nat) (code:BoundsCode) (hik:i=k) (hy:k<=y) (w:World):(Instr.sliceBound (.int kd i) y code).run P w= .ok k w:=by
 subst hik;have h1:(0:Int)<=k/\(k:Int)<=y:=by omega
 simp [Instr.sliceBound,asIntOf,Sem.run_bind,Result.andThen,h1,hy]
theorem ad7 {i:Int} (l:Nat) (hi:i=l) (h:l<=n) (w:World):(Instr.sliceBounds true n c (some (.int kd i)) none none).run P w= .ok (l,n,c) w:=by
 simp [Instr.sliceBounds,Sem.run_bind,Result.andThen,oN l n _ hi h]
theorem avw {i:Int} (k:Nat) (hi:i=k) (h:k<=c) (w:World):(Instr.sliceBounds true n c none (some (.int kd i)) none).run P w= .ok (0,k,c) w:=by
 simp [Instr.sliceBounds,Sem.run_bind,Result.andThen,oN k c _ hi h]
theorem SB {i j:Int} (l k:Nat) (hi:i=l) (hj:j=k) (hlk:l<=k) (h:k<=c) (w:World):(Instr.sliceBounds true n c (some (.int kd i)) (some (.int ke j)) none).run P w= .ok (l,k,c) w:=by
 simp [Instr.sliceBounds,Sem.run_bind,Result.andThen,oN k c _ hj h,oN l k _ hi hlk]
theorem ahZ {j m:Int} (k q:Nat) (hj:j=k) (hm:m=q) (hkq:k<=q) (h:q<=c) (w:World):(Instr.sliceBounds true n c none (some (.int ke j)) (some (.int kf m))).run P w= .ok (0,k,q) w:=by
 simp [Instr.sliceBounds,Sem.run_bind,Result.andThen,oN q c _ hm h,oN k q _ hj hkq]
theorem aaZ {i j m:Int} (l k q:Nat) (hi:i=l) (hj:j=k) (hm:m=q) (hlk:l<=k) (hkq:k<=q) (h:q<=c) (w:World):(Instr.sliceBounds true n c (some (.int kd i)) (some (.int ke j)) (some (.int kf m))).run P w= .ok (l,k,q) w:=by
 simp [Instr.sliceBounds,Sem.run_bind,Result.andThen,oN q c _ hm h,oN k q _ hj hkq,oN l k _ hi hlk]
theorem add_block (a:Addr) (k:Nat):a.block=(a.add k).block:=by
 unfold Addr.add
 split<;>rfl
theorem zO {lo hi mx:Option Value} {l k q:Nat} (hu:P.underlying t=some (.slice e)) (hz:(P.info? e).map (·.size)=some s) (hb: ∀ w,(Instr.sliceBounds true n c lo hi mx).run P w= .ok (l,k,q) w) (hlk:l<=k) (hkn:k<=n) (hkq:k<=q):
  ∃ A',(∀ w,(Instr.sliceAt t (.slice A n c) lo hi mx).run P w= .ok (.slice A' (k-l) (q-l)) w)/\(∀ (w:World) (B:Nat) (xs:List Value),Rd w B s A n xs->Rd w B s A' (k-l) ((xs.drop (l*s)).take ((k-l)*s)))/\ ∀ a',A'=some a'-> ∃ a,A=some a/\a.block=a'.block:=by
 obtain ⟨z,hq,hs⟩: ∃ z,P.info? e=some z/\z.size=s:=by
  cases h:P.info? e with
  | none=>simp [h] at hz
  | some z=>exact ⟨z,rfl,by simpa [h] using hz⟩
 refine ⟨if q=l then A else A.map (·.add (l*s)),λw=>?_,?_,?_⟩
 ·have h1:(sizeOf e).run P w= .ok s w:=by simp [sizeOf,typeInfo,hq,hs,Sem.run_bind,Result.andThen]
  simp [Instr.sliceAt,Instr.slice,run_underlying hu,Sem.run_bind,Result.andThen,hb,h1]
 ·intro w B xs hR;refine ⟨?_,λhn=>?_⟩
  ·rw [List.length_take,List.length_drop,hR.1,<-Nat.sub_mul];exact Nat.min_eq_left (Nat.mul_le_mul_right _ (by omega))
  obtain ⟨b,off,rfl,hb,hcell⟩:=hR.2 (by omega);rw [if_neg (by omega)];refine ⟨b,off+l*s,?_,hb,λj u hu=>?_⟩
  ·simp only [Option.map_some,Option.some.injEq];rw [Go.WideShapes.add_plain]
  rw [Nat.add_assoc];refine hcell _ u ?_;have hj:j< (k-l)*s:=by
   have:=(List.getElem?_eq_some_iff.1 hu).1;rw [List.length_take] at this;omega
  rw [List.getElem?_take_of_lt hj,List.getElem?_drop] at hu;exact hu
 intro a' h
 split at h
 ·exact ⟨a',h,rfl⟩
 cases A with
 | none=>cases h
 | some a=>cases h;exact ⟨a,rfl,add_block a _⟩
theorem XG {lo hi mx:Option Value} {l k q:Nat} (hu:P.underlying t=some (.slice e)) (hz:(P.info? e).map (·.size)=some s) (hb: ∀ w,(Instr.sliceBounds true n c lo hi mx).run P w= .ok (l,k,q) w) (hR:Rd w B s A n xs) (hlk:l<=k) (hkn:k<=n) (hkq:k<=q):
  ∃ A',(∀ w,(Instr.sliceAt t (.slice A n c) lo hi mx).run P w= .ok (.slice A' (k-l) (q-l)) w)/\Rd w B s A' (k-l) ((xs.drop (l*s)).take ((k-l)*s))/\ ∀ a',A'=some a'-> ∃ a,A=some a/\a.block=a'.block:=by
 obtain ⟨A',h1,h2,h3⟩:=zO (A:=A) hu hz hb hlk hkn hkq;exact ⟨A',h1,h2 _ _ _ hR,h3⟩
theorem acp {lo hi mx:Option Value} {l k q:Nat} (hu:P.underlying t=some (.slice e)) (hz:(P.info? e).map (·.size)=some s) (hb: ∀ w,(Instr.sliceBounds true n c lo hi mx).run P w= .ok (l,k,q) w) (hR:Rd w B s A n xs) (hlk:l<=k) (hkn:k<=n) (hkq:k<=q):
  ∃ A',(∀ w,(Instr.sliceAt t (.slice A n c) lo hi mx).run P w= .ok (.slice A' (k-l) (q-l)) w)/\Rd w B s A' (k-l) ((xs.drop (l*s)).take ((k-l)*s)):=by
 obtain ⟨A',h1,h2,_⟩:=XG hu hz hb hR hlk hkn hkq;exact ⟨A',h1,h2⟩
theorem ah0 {x y:Int} {ts:Array TypeId} {ty:TypeId} {cs:Array Bool}:(builtin .min ts ty cs #[.int kd x,.int kd y]).run P w= .ok (.value (.int kd (min x y))) w:=by
 have:(if y<x then y else x)=min x y:=by split<;>omega
 simp [builtin,run_min_int2,Sem.run_bind,Result.andThen,this]
theorem RP {x y:Nat} {ts:Array TypeId} {ty:TypeId} {cs:Array Bool}:(builtin .min ts ty cs #[.int kd x,.int kd y]).run P w= .ok (.value (.int kd ((min x y:Nat):Int))) w:=by
 rw [ah0,show min (x:Int) (y:Int)=((min x y:Nat):Int) by omega]
theorem uI {op:BinOp} {xo yo:Operand} {a b:Array Value} {v:Value} (hg:P.eqGuardType P.depth t=false) (h:(binOp op t (.agg a) (.agg b)).run P w= .ok v w):(do eqGuard op t xo yo (.agg a) (.agg b);binOp op t (.agg a) (.agg b):Sem Value).run P w= .ok v w:=by
 have h1:(eqGuard op t xo yo (.agg a) (.agg b)).run P w= .ok () w:=by
  have hp: ∀ w,(program:Sem Program).run P w= .ok P w:=λ_=>rfl;unfold eqGuard
  cases op<;>first | rfl | simp [hp,Sem.run_bind,Result.andThen,hg]
 rw [Sem.run_bind,h1];exact h
theorem XH {s t:TypeId} {k:IntKind} {x:Int} (hs:(P.underlying s).isSome=true) (ht:P.underlying t=some (.int k)) {z:Int} (hz:k.wrap x=z):(convert s t (.int kd x)).run P w= .ok (.int k z) w:=by
 obtain ⟨ds,hs⟩:=Option.isSome_iff_exists.1 hs;subst hz;simp [convert,Sem.run_bind,run_underlying hs,run_underlying ht,Result.andThen,Conv.intToInt]
theorem u8_in (a:UInt8):0<=(a.toNat:Int)/\(a.toNat:Int)<=255:=by
 have:=a.toNat_lt;omega
theorem M0 {s t:TypeId} {a:UInt8} (hs:P.underlying s=some (.int .u8)) (ht:P.underlying t=some (.int .i64)):(convert s t (.int .u8 (a.toNat:Int))).run P w= .ok (iV (a.toNat:Int)) w:=
 XH (by rw [hs];rfl) ht (wrap64_in (by have:=u8_in a;omega) (by have:=u8_in a;omega))
theorem aa0 {xo yo:Operand} {x z:Int} (hz:x*256=z) (h0:0<=x) (h1:x<=1099511627776):(do eqGuard .shl t xo yo (iV x) (.int .u64 8);binOp .shl t (iV x) (.int .u64 8):Sem Value).run P w= .ok (iV z) w:=by
 subst hz;have:IntKind.i64.wrap (x*256)=x*256:=wrap64_in (by omega) (by omega);simp [binOp,eqGuard_shl,shift_shl_i64,this]
theorem arj {xo yo:Operand} {v x z:Int} (hz:v*256+x=z) (h0:0<=v) (h1:v<=1099511627776) (h2:0<=x) (h3:x<=255):(do eqGuard .or t xo yo (iV (v*256)) (iV x);binOp .or t (iV (v*256)) (iV x):Sem Value).run P w= .ok (iV z) w:=by
 subst hz;have:=or8 v x h0 h1 h2 h3;simp [binOp,eqGuard_or,intBits_or,this]
theorem Lm {b:List UInt8} {lo hi mx:Option Value} {l k q m c':Nat} (hu:P.underlying t=some (.slice e)) (hz:(P.info? e).map (·.size)=some 1) (hb: ∀ w,(Instr.sliceBounds true b.length c lo hi mx).run P w= .ok (l,k,q) w) (hR:Rd w B 1 A b.length (byteCells b))
  (hlk:l<=k) (hkn:k<=b.length) (hkq:k<=q) (hm:k-l=m) (hc:q-l=c'): ∃ A',(∀ w,(Instr.sliceAt t (.slice A b.length c) lo hi mx).run P w= .ok (.slice A' m c') w)/\Rd w B 1 A' m (byteCells ((b.drop l).take m)):=by
 subst hm;subst hc;obtain ⟨A',h1,h2⟩:=acp hu hz hb hR hlk hkn hkq;refine ⟨A',h1,?_⟩;rw [Nat.mul_one,Nat.mul_one] at h2;simpa [byteCells,List.map_drop,List.map_take] using h2
theorem afI {b:List UInt8} {lo hi mx:Option Value} {l k q m c':Nat} (hu:P.underlying t=some (.slice e)) (hz:(P.info? e).map (·.size)=some 1) (hb: ∀ w,(Instr.sliceBounds true b.length c lo hi mx).run P w= .ok (l,k,q) w)
  (hlk:l<=k) (hkn:k<=b.length) (hkq:k<=q) (hm:k-l=m) (hc:q-l=c'): ∃ A',(∀ w,(Instr.sliceAt t (.slice A b.length c) lo hi mx).run P w= .ok (.slice A' m c') w)/\(∀ (w:World) (B:Nat),Rd w B 1 A b.length (byteCells b)->Rd w B 1 A' m (byteCells ((b.drop l).take m)))/\ ∀ a',A'=some a'-> ∃ a,A=some a/\a.block=a'.block:=by
 subst hm;subst hc;obtain ⟨A',h1,h2,h3⟩:=zO (A:=A) hu hz hb hlk hkn hkq;refine ⟨A',h1,λw B hR=>?_,h3⟩
 replace h2:=h2 w B _ hR
 rw [Nat.mul_one,Nat.mul_one] at h2;simpa [byteCells,List.map_drop,List.map_take] using h2
end
end
section
open ChangeShapes WideShapes RowKit
abbrev fA (s f k:Nat):Prop:= ∀ (b o:Nat) (w:World),(Instr.fieldAt s (.pointer (some ⟨b,o,none⟩)) f).run tP w= .ok (.pointer (some ⟨b,o+k,none⟩)) w
theorem mU:(tP.info? 3).map (·.size)=some 1:=by kernel_rfl
theorem Gq:(tP.info? 4).map (·.size)=some 1:=by kernel_rfl
theorem SC:(tP.info? 5).map (·.size)=some 1:=by kernel_rfl
theorem ark:(tP.info? 22).map (·.size)=some 1:=by kernel_rfl
theorem arn:(tP.info? 23).map (·.size)=some 1:=by kernel_rfl
theorem aro:(tP.info? 24).map (·.size)=some 1:=by kernel_rfl
theorem arp:(tP.info? 26).map (·.size)=some 2:=by kernel_rfl
theorem alk:fA 26 0 0:=λ_ _ _=>by kernel_rfl
theorem alm:fA 26 1 1:=λ_ _ _=>by kernel_rfl
theorem iY:(tP.info? 27).map (·.size)=some 2:=by kernel_rfl
theorem Az:fA 27 0 0:=λ_ _ _=>by kernel_rfl
theorem aln:fA 27 1 1:=λ_ _ _=>by kernel_rfl
theorem oC:(tP.info? 30).map (·.size)=some 8:=by kernel_rfl
theorem aav:(tP.info? 31).map (·.size)=some 1:=by kernel_rfl
theorem ah1:(tP.info? 32).map (·.size)=some 1:=by kernel_rfl
theorem ah2:(tP.info? 33).map (·.size)=some 1:=by kernel_rfl
theorem arq:(tP.info? 34).map (·.size)=some 18:=by kernel_rfl
theorem alo:fA 34 0 0:=λ_ _ _=>by kernel_rfl
theorem alp:fA 34 1 1:=λ_ _ _=>by kernel_rfl
theorem alq:fA 34 2 6:=λ_ _ _=>by kernel_rfl
theorem alr:fA 34 3 14:=λ_ _ _=>by kernel_rfl
theorem als:fA 34 4 15:=λ_ _ _=>by kernel_rfl
theorem AZ:(tP.info? 35).map (·.size)=some 18:=by kernel_rfl
theorem alu:fA 35 0 0:=λ_ _ _=>by kernel_rfl
theorem alv:fA 35 1 1:=λ_ _ _=>by kernel_rfl
theorem alx:fA 35 2 6:=λ_ _ _=>by kernel_rfl
theorem aly:fA 35 3 14:=λ_ _ _=>by kernel_rfl
theorem kK:fA 35 4 15:=λ_ _ _=>by kernel_rfl
theorem RQ:fA 35 5 16:=λ_ _ _=>by kernel_rfl
theorem aa1:fA 35 6 17:=λ_ _ _=>by kernel_rfl
theorem ars:(tP.info? 75).map (·.size)=some 1:=by kernel_rfl
theorem vG:(tP.info? 71).map (·.size)=some 1:=by kernel_rfl
theorem aC:(tP.info? 73).map (·.size)=some 6:=by kernel_rfl
theorem alz:(tP.info? 73).map (λi=>(i.zero,i.size,i.bytes))=some (some (.agg #[iV 0,iV 0,iV 0,iV 0,iV 0,.slice none 0 0]),6,64):=by kernel_rfl
theorem aa2:fA 73 0 0:=λ_ _ _=>by kernel_rfl
theorem alA:fA 73 1 1:=λ_ _ _=>by kernel_rfl
theorem alB:fA 73 2 2:=λ_ _ _=>by kernel_rfl
theorem alC:fA 73 3 3:=λ_ _ _=>by kernel_rfl
theorem alD:fA 73 4 4:=λ_ _ _=>by kernel_rfl
theorem aa3:fA 73 5 5:=λ_ _ _=>by kernel_rfl
theorem SE:(tP.info? 74).map (·.size)=some 1:=by kernel_rfl
theorem aa4:(tP.info? 74).map (λi=>(i.zero,i.size,i.bytes))=some (some (.slice none 0 0),1,24):=by kernel_rfl
theorem NM:(tP.info? 39).map (·.size)=some 1:=by kernel_rfl
theorem NP:(tP.info? 40).map (·.size)=some 1:=by kernel_rfl
theorem Dz:(tP.info? 43).map (·.size)=some 9:=by kernel_rfl
theorem ah3:(tP.info? 44).map (·.size)=some 36:=by kernel_rfl
theorem jO:(tP.info? 46).map (·.size)=some 41:=by kernel_rfl
theorem alE:fA 46 0 0:=λ_ _ _=>by kernel_rfl
theorem alF:fA 46 1 1:=λ_ _ _=>by kernel_rfl
theorem alG:fA 46 2 2:=λ_ _ _=>by kernel_rfl
theorem alH:fA 46 3 3:=λ_ _ _=>by kernel_rfl
theorem alI:fA 46 4 4:=λ_ _ _=>by kernel_rfl
theorem alJ:fA 46 5 5:=λ_ _ _=>by kernel_rfl
theorem SF:(tP.info? 53).map (·.size)=some 2:=by kernel_rfl
theorem alK:fA 53 0 0:=λ_ _ _=>by kernel_rfl
theorem alL:fA 53 1 1:=λ_ _ _=>by kernel_rfl
theorem iy:(tP.info? 55).map (·.size)=some 6:=by kernel_rfl
theorem pF:(tP.info? 55).map (λi=>(i.zero,i.size,i.bytes))=some (some (.agg #[iV 0,iV 0,iV 0,iV 0,iV 0,iV 0]),6,48):=by kernel_rfl
theorem alM:fA 55 0 0:=λ_ _ _=>by kernel_rfl
theorem alN:fA 55 1 1:=λ_ _ _=>by kernel_rfl
theorem alO:fA 55 2 2:=λ_ _ _=>by kernel_rfl
theorem alP:fA 55 3 3:=λ_ _ _=>by kernel_rfl
theorem alQ:fA 55 4 4:=λ_ _ _=>by kernel_rfl
theorem jH:(tP.info? 69).map (·.size)=some 11:=by kernel_rfl
theorem DC:(tP.info? 69).map (λi=>(i.zero,i.size,i.bytes))=some (some (.agg #[iV 0,iV 0,iV 0,iV 0,iV 0,iV 0,iV 0,iV 0,iV 0,iV 0,iV 0]),11,88):=by kernel_rfl
theorem alR:fA 69 0 0:=λ_ _ _=>by kernel_rfl
theorem alS:fA 69 1 1:=λ_ _ _=>by kernel_rfl
theorem alT:fA 69 2 2:=λ_ _ _=>by kernel_rfl
theorem alU:fA 69 3 3:=λ_ _ _=>by kernel_rfl
theorem alV:fA 69 4 4:=λ_ _ _=>by kernel_rfl
theorem alW:fA 69 5 5:=λ_ _ _=>by kernel_rfl
theorem bQ:(tP.info? 58).map (·.size)=some 4:=by kernel_rfl
theorem alX:(tP.info? 58).map (λi=>(i.zero,i.size,i.bytes))=some (some (.agg #[iV 0,iV 0,iV 0,iV 0]),4,32):=by kernel_rfl
theorem rT:fA 58 0 0:=λ_ _ _=>by kernel_rfl
theorem aru:(tP.info? 80).map (·.size)=some 7:=by kernel_rfl
theorem alY:fA 80 0 0:=λ_ _ _=>by kernel_rfl
theorem alZ:fA 80 1 1:=λ_ _ _=>by kernel_rfl
theorem Kj:(tP.info? 81).map (·.size)=some 7:=by kernel_rfl
theorem al0:(tP.info? 81).map (λi=>(i.zero,i.size,i.bytes))=some (some (.agg #[iV 0,iV 0,iV 0,iV 0,iV 0,iV 0,iV 0]),7,56):=by kernel_rfl
theorem rU:fA 81 0 0:=λ_ _ _=>by kernel_rfl
theorem lM:fA 81 1 1:=λ_ _ _=>by kernel_rfl
theorem AA:fA 81 2 5:=λ_ _ _=>by kernel_rfl
theorem q9:(tP.info? 60).map (·.size)=some 14:=by kernel_rfl
theorem al1:(tP.info? 60).map (λi=>(i.zero,i.size,i.bytes))=some (some (.agg #[iV 0,iV 0,iV 0,iV 0,iV 0,iV 0,iV 0,iV 0,iV 0,iV 0,iV 0,iV 0,iV 0,iV 0]),14,112):=by kernel_rfl
theorem DF:fA 60 4 9:=λ_ _ _=>by kernel_rfl
theorem vW:fA 60 5 13:=λ_ _ _=>by kernel_rfl
theorem DI:(tP.info? 62).map (·.size)=some 2:=by kernel_rfl
theorem RS:(tP.info? 62).map (λi=>(i.zero,i.size,i.bytes))=some (some (.agg #[iV 0,iV 0]),2,16):=by kernel_rfl
theorem al2:fA 62 0 0:=λ_ _ _=>by kernel_rfl
theorem al3:fA 62 1 1:=λ_ _ _=>by kernel_rfl
theorem F7:(tP.info? 64).map (·.size)=some 4:=by kernel_rfl
theorem aa5:(tP.info? 64).map (λi=>(i.zero,i.size,i.bytes))=some (some (.agg #[iV 0,iV 0,iV 0,iV 0]),4,32):=by kernel_rfl
theorem al4:fA 64 0 0:=λ_ _ _=>by kernel_rfl
theorem al5:fA 64 1 2:=λ_ _ _=>by kernel_rfl
theorem al6:(tP.info? 83).map (·.size)=some 5:=by kernel_rfl
theorem afJ:fA 83 0 0:=λ_ _ _=>by kernel_rfl
theorem afK:fA 83 1 1:=λ_ _ _=>by kernel_rfl
theorem afL:fA 83 2 2:=λ_ _ _=>by kernel_rfl
theorem afM:fA 83 3 3:=λ_ _ _=>by kernel_rfl
theorem afN:fA 83 4 4:=λ_ _ _=>by kernel_rfl
theorem RU:(tP.info? 84).map (·.size)=some 5:=by kernel_rfl
theorem VW:fA 84 0 0:=λ_ _ _=>by kernel_rfl
theorem M4:fA 84 1 1:=λ_ _ _=>by kernel_rfl
theorem VX:fA 84 2 2:=λ_ _ _=>by kernel_rfl
theorem zk:fA 84 3 3:=λ_ _ _=>by kernel_rfl
theorem M5:fA 84 4 4:=λ_ _ _=>by kernel_rfl
theorem DJ:(tP.info? 105).map (·.size)=some 1:=by kernel_rfl
theorem AB:(tP.info? 106).map (·.size)=some 1:=by kernel_rfl
theorem yu:(tP.info? 108).map (·.size)=some 2:=by kernel_rfl
theorem afO:fA 108 0 0:=λ_ _ _=>by kernel_rfl
theorem afP:fA 108 1 1:=λ_ _ _=>by kernel_rfl
theorem Lp:(tP.info? 109).map (·.size)=some 8:=by kernel_rfl
theorem afQ:fA 112 0 0:=λ_ _ _=>by kernel_rfl
theorem afR:fA 112 1 1:=λ_ _ _=>by kernel_rfl
theorem afS:fA 112 2 9:=λ_ _ _=>by kernel_rfl
theorem afT:fA 112 3 10:=λ_ _ _=>by kernel_rfl
theorem afU:fA 112 4 50:=λ_ _ _=>by kernel_rfl
theorem aa6:(tP.info? 113).map (·.size)=some 1:=by kernel_rfl
theorem Cj:(tP.info? 113).map (λi=>(i.zero,i.size,i.bytes))=some (some (.pointer none),1,8):=by kernel_rfl
theorem eZ:(tP.info? 116).map (·.size)=some 2:=by kernel_rfl
theorem VY:fA 116 0 0:=λ_ _ _=>by kernel_rfl
theorem afV:fA 116 1 1:=λ_ _ _=>by kernel_rfl
theorem aa7:(tP.info? 117).map (·.size)=some 4:=by kernel_rfl
theorem pG:(tP.info? 118).map (·.size)=some 1:=by kernel_rfl
theorem aa8:(tP.info? 120).map (·.size)=some 20:=by kernel_rfl
theorem afW:fA 120 0 0:=λ_ _ _=>by kernel_rfl
theorem afX:fA 120 1 1:=λ_ _ _=>by kernel_rfl
theorem afY:fA 120 2 2:=λ_ _ _=>by kernel_rfl
theorem afZ:fA 120 3 4:=λ_ _ _=>by kernel_rfl
theorem af0:fA 120 4 5:=λ_ _ _=>by kernel_rfl
theorem af2:fA 120 5 13:=λ_ _ _=>by kernel_rfl
theorem af3:fA 120 6 17:=λ_ _ _=>by kernel_rfl
theorem af4:fA 120 7 18:=λ_ _ _=>by kernel_rfl
theorem af5:fA 120 8 19:=λ_ _ _=>by kernel_rfl
theorem aa9:(tP.info? 206).map (·.size)=some 1:=by kernel_rfl
theorem al7:(tP.info? 236).map (·.size)=some 42:=by kernel_rfl
theorem af6:fA 236 0 0:=λ_ _ _=>by kernel_rfl
theorem af7:fA 236 1 41:=λ_ _ _=>by kernel_rfl
theorem al8:(tP.info? 90).map (·.size)=some 41:=by kernel_rfl
theorem af8:fA 90 0 0:=λ_ _ _=>by kernel_rfl
theorem af9:fA 91 0 0:=λ_ _ _=>by kernel_rfl
theorem abb:(tP.info? 101).map (·.size)=some 4:=by kernel_rfl
theorem VZ:fA 101 0 0:=λ_ _ _=>by kernel_rfl
theorem zl:fA 101 1 1:=λ_ _ _=>by kernel_rfl
theorem zm:fA 101 2 2:=λ_ _ _=>by kernel_rfl
theorem Gs:fA 101 3 3:=λ_ _ _=>by kernel_rfl
theorem al9:(tP.info? 139).map (·.size)=some 1:=by kernel_rfl
theorem rV:(tP.info? 141).map (·.size)=some 2:=by kernel_rfl
theorem aga:fA 141 0 0:=λ_ _ _=>by kernel_rfl
theorem agb:fA 141 1 1:=λ_ _ _=>by kernel_rfl
theorem vX:(tP.info? 146).map (·.size)=some 23:=by kernel_rfl
theorem V3:(tP.info? 146).map (λi=>(i.zero,i.size,i.bytes))=some (some (.agg #[iV 0,iV 0,iV 0,iV 0,iV 0,iV 0,iV 0,iV 0,iV 0,iV 0,iV 0,iV 0,iV 0,.slice none 0 0,.bool false,iV 0,iV 0,iV 0,iV 0,iV 0,iV 0,iV 0,iV 0]),23,200):=by kernel_rfl
theorem agc:fA 146 0 0:=λ_ _ _=>by kernel_rfl
theorem agf:fA 146 1 1:=λ_ _ _=>by kernel_rfl
theorem agh:fA 146 2 2:=λ_ _ _=>by kernel_rfl
theorem agi:fA 146 3 3:=λ_ _ _=>by kernel_rfl
theorem agj:fA 146 4 4:=λ_ _ _=>by kernel_rfl
theorem agk:fA 146 5 5:=λ_ _ _=>by kernel_rfl
theorem agl:fA 146 6 6:=λ_ _ _=>by kernel_rfl
theorem agm:fA 146 7 7:=λ_ _ _=>by kernel_rfl
theorem agn:fA 146 8 13:=λ_ _ _=>by kernel_rfl
theorem agp:fA 146 9 14:=λ_ _ _=>by kernel_rfl
theorem acr:fA 146 10 15:=λ_ _ _=>by kernel_rfl
theorem acs:fA 146 11 16:=λ_ _ _=>by kernel_rfl
theorem jW:(tP.info? 171).map (·.size)=some 10:=by kernel_rfl
theorem M6:(tP.info? 171).map (λi=>(i.zero,i.size,i.bytes))=some (some (.agg #[iV 0,iV 0,iV 0,iV 0,iV 0,iV 0,iV 0,iV 0,iV 0,iV 0]),10,80):=by kernel_rfl
theorem agq:fA 171 0 0:=λ_ _ _=>by kernel_rfl
theorem agr:fA 171 1 1:=λ_ _ _=>by kernel_rfl
theorem ags:fA 171 2 2:=λ_ _ _=>by kernel_rfl
theorem agt:fA 171 3 3:=λ_ _ _=>by kernel_rfl
theorem agu:fA 171 4 4:=λ_ _ _=>by kernel_rfl
theorem abd:(tP.info? 227).map (·.size)=some 1:=by kernel_rfl
theorem avx (args:Array Value) (w:World):(callFunc 11 args).run tP w= .ok (.enter 11 args) w:=ay Tryz.func11 (by kernel_rfl) rfl args w
theorem avy (args:Array Value) (w:World):(callFunc 12 args).run tP w= .ok (.enter 12 args) w:=ay Tryz.func12 (by kernel_rfl) rfl args w
theorem avz (args:Array Value) (w:World):(callFunc 13 args).run tP w= .ok (.enter 13 args) w:=ay Tryz.func13 (by kernel_rfl) rfl args w
theorem avA (args:Array Value) (w:World):(callFunc 23 args).run tP w= .ok (.enter 23 args) w:=ay Tryz.func23 (by kernel_rfl) rfl args w
theorem anZ (args:Array Value) (w:World):(callFunc 123 args).run tP w= .ok (.enter 123 args) w:=ay Tryz.func123 (by kernel_rfl) rfl args w
theorem OI (args:Array Value) (w:World):(callFunc 18 args).run tP w= .ok (.enter 18 args) w:=ay Tryz.func18 (by kernel_rfl) rfl args w
theorem SG (args:Array Value) (w:World):(callFunc 16 args).run tP w= .ok (.enter 16 args) w:=ay Tryz.func16 (by kernel_rfl) rfl args w
theorem avB (args:Array Value) (w:World):(callFunc 17 args).run tP w= .ok (.enter 17 args) w:=ay Tryz.func17 (by kernel_rfl) rfl args w
theorem avC (args:Array Value) (w:World):(callFunc 21 args).run tP w= .ok (.enter 21 args) w:=ay Tryz.func21 (by kernel_rfl) rfl args w
theorem avD (args:Array Value) (w:World):(callFunc 22 args).run tP w= .ok (.enter 22 args) w:=ay Tryz.func22 (by kernel_rfl) rfl args w
theorem an0 (args:Array Value) (w:World):(callFunc 33 args).run tP w= .ok (.enter 33 args) w:=ay Tryz.func33 (by kernel_rfl) rfl args w
theorem avE (args:Array Value) (w:World):(callFunc 36 args).run tP w= .ok (.enter 36 args) w:=ay Tryz.func36 (by kernel_rfl) rfl args w
theorem avF (args:Array Value) (w:World):(callFunc 37 args).run tP w= .ok (.enter 37 args) w:=ay Tryz.func37 (by kernel_rfl) rfl args w
theorem an1 (args:Array Value) (w:World):(callFunc 38 args).run tP w= .ok (.enter 38 args) w:=ay Tryz.func38 (by kernel_rfl) rfl args w
theorem ad8 (args:Array Value) (w:World):(callFunc 140 args).run tP w= .ok (.enter 140 args) w:=ay Tryz.func140 (by kernel_rfl) rfl args w
theorem yE (args:Array Value) (w:World):(callFunc 32 args).run tP w= .ok (.enter 32 args) w:=ay Tryz.func32 (by kernel_rfl) rfl args w
theorem avG (args:Array Value) (w:World):(callFunc 24 args).run tP w= .ok (.enter 24 args) w:=ay Tryz.func24 (by kernel_rfl) rfl args w
theorem ajn (args:Array Value) (w:World):(callFunc 25 args).run tP w= .ok (.enter 25 args) w:=ay Tryz.func25 (by kernel_rfl) rfl args w
theorem avH (args:Array Value) (w:World):(callFunc 26 args).run tP w= .ok (.enter 26 args) w:=ay Tryz.func26 (by kernel_rfl) rfl args w
theorem avI (args:Array Value) (w:World):(callFunc 27 args).run tP w= .ok (.enter 27 args) w:=ay Tryz.func27 (by kernel_rfl) rfl args w
theorem avJ (args:Array Value) (w:World):(callFunc 28 args).run tP w= .ok (.enter 28 args) w:=ay Tryz.func28 (by kernel_rfl) rfl args w
theorem avK (args:Array Value) (w:World):(callFunc 29 args).run tP w= .ok (.enter 29 args) w:=ay Tryz.func29 (by kernel_rfl) rfl args w
theorem avL (args:Array Value) (w:World):(callFunc 30 args).run tP w= .ok (.enter 30 args) w:=ay Tryz.func30 (by kernel_rfl) rfl args w
theorem avM (args:Array Value) (w:World):(callFunc 31 args).run tP w= .ok (.enter 31 args) w:=ay Tryz.func31 (by kernel_rfl) rfl args w
theorem an2 (args:Array Value) (w:World):(callFunc 34 args).run tP w= .ok (.enter 34 args) w:=ay Tryz.func34 (by kernel_rfl) rfl args w
theorem avN (args:Array Value) (w:World):(callFunc 35 args).run tP w= .ok (.enter 35 args) w:=ay Tryz.func35 (by kernel_rfl) rfl args w
theorem an3 (args:Array Value) (w:World):(callFunc 48 args).run tP w= .ok (.enter 48 args) w:=ay Tryz.func48 (by kernel_rfl) rfl args w
theorem avO (args:Array Value) (w:World):(callFunc 50 args).run tP w= .ok (.enter 50 args) w:=ay Tryz.func50 (by kernel_rfl) rfl args w
theorem OJ (args:Array Value) (w:World):(callFunc 51 args).run tP w= .ok (.enter 51 args) w:=ay Tryz.func51 (by kernel_rfl) rfl args w
theorem avP (args:Array Value) (w:World):(callFunc 52 args).run tP w= .ok (.enter 52 args) w:=ay Tryz.func52 (by kernel_rfl) rfl args w
theorem xk (args:Array Value) (w:World):(callFunc 53 args).run tP w= .ok (.enter 53 args) w:=ay Tryz.func53 (by kernel_rfl) rfl args w
theorem avQ (args:Array Value) (w:World):(callFunc 54 args).run tP w= .ok (.enter 54 args) w:=ay Tryz.func54 (by kernel_rfl) rfl args w
theorem ajo (args:Array Value) (w:World):(callFunc 55 args).run tP w= .ok (.enter 55 args) w:=ay Tryz.func55 (by kernel_rfl) rfl args w
theorem ajp (args:Array Value) (w:World):(callFunc 56 args).run tP w= .ok (.enter 56 args) w:=ay Tryz.func56 (by kernel_rfl) rfl args w
theorem avR (args:Array Value) (w:World):(callFunc 57 args).run tP w= .ok (.enter 57 args) w:=ay Tryz.func57 (by kernel_rfl) rfl args w
theorem avS (args:Array Value) (w:World):(callFunc 58 args).run tP w= .ok (.enter 58 args) w:=ay Tryz.func58 (by kernel_rfl) rfl args w
theorem avT (args:Array Value) (w:World):(callFunc 59 args).run tP w= .ok (.enter 59 args) w:=ay Tryz.func59 (by kernel_rfl) rfl args w
theorem avU (args:Array Value) (w:World):(callFunc 60 args).run tP w= .ok (.enter 60 args) w:=ay Tryz.func60 (by kernel_rfl) rfl args w
theorem ajq (args:Array Value) (w:World):(callFunc 61 args).run tP w= .ok (.enter 61 args) w:=ay Tryz.func61 (by kernel_rfl) rfl args w
theorem avV (args:Array Value) (w:World):(callFunc 62 args).run tP w= .ok (.enter 62 args) w:=ay Tryz.func62 (by kernel_rfl) rfl args w
theorem an4 (args:Array Value) (w:World):(callFunc 154 args).run tP w= .ok (.enter 154 args) w:=ay Tryz.func154 (by kernel_rfl) rfl args w
theorem avW (args:Array Value) (w:World):(callFunc 39 args).run tP w= .ok (.enter 39 args) w:=ay Tryz.func39 (by kernel_rfl) rfl args w
theorem an5 (args:Array Value) (w:World):(callFunc 40 args).run tP w= .ok (.enter 40 args) w:=ay Tryz.func40 (by kernel_rfl) rfl args w
theorem an6 (args:Array Value) (w:World):(callFunc 42 args).run tP w= .ok (.enter 42 args) w:=ay Tryz.func42 (by kernel_rfl) rfl args w
theorem an7 (args:Array Value) (w:World):(callFunc 43 args).run tP w= .ok (.enter 43 args) w:=ay Tryz.func43 (by kernel_rfl) rfl args w
theorem an8 (args:Array Value) (w:World):(callFunc 44 args).run tP w= .ok (.enter 44 args) w:=ay Tryz.func44 (by kernel_rfl) rfl args w
theorem avX (args:Array Value) (w:World):(callFunc 45 args).run tP w= .ok (.enter 45 args) w:=ay Tryz.func45 (by kernel_rfl) rfl args w
theorem avY (args:Array Value) (w:World):(callFunc 46 args).run tP w= .ok (.enter 46 args) w:=ay Tryz.func46 (by kernel_rfl) rfl args w
theorem avZ (args:Array Value) (w:World):(callFunc 47 args).run tP w= .ok (.enter 47 args) w:=ay Tryz.func47 (by kernel_rfl) rfl args w
theorem av0 (args:Array Value) (w:World):(callFunc 49 args).run tP w= .ok (.enter 49 args) w:=ay Tryz.func49 (by kernel_rfl) rfl args w
theorem an9 (args:Array Value) (w:World):(callFunc 68 args).run tP w= .ok (.enter 68 args) w:=ay Tryz.func68 (by kernel_rfl) rfl args w
theorem aoa (args:Array Value) (w:World):(callFunc 69 args).run tP w= .ok (.enter 69 args) w:=ay Tryz.func69 (by kernel_rfl) rfl args w
theorem Ey (args:Array Value) (w:World):(callFunc 70 args).run tP w= .ok (.enter 70 args) w:=ay Tryz.func70 (by kernel_rfl) rfl args w
theorem Gt (args:Array Value) (w:World):(callFunc 71 args).run tP w= .ok (.enter 71 args) w:=ay Tryz.func71 (by kernel_rfl) rfl args w
theorem OL (args:Array Value) (w:World):(callFunc 72 args).run tP w= .ok (.enter 72 args) w:=ay Tryz.func72 (by kernel_rfl) rfl args w
theorem XI (args:Array Value) (w:World):(callFunc 73 args).run tP w= .ok (.enter 73 args) w:=ay Tryz.func73 (by kernel_rfl) rfl args w
theorem arv (args:Array Value) (w:World):(callFunc 74 args).run tP w= .ok (.enter 74 args) w:=ay Tryz.func74 (by kernel_rfl) rfl args w
theorem arw (args:Array Value) (w:World):(callFunc 75 args).run tP w= .ok (.enter 75 args) w:=ay Tryz.func75 (by kernel_rfl) rfl args w
theorem ah4 (args:Array Value) (w:World):(callFunc 76 args).run tP w= .ok (.enter 76 args) w:=ay Tryz.func76 (by kernel_rfl) rfl args w
theorem xU (args:Array Value) (w:World):(callFunc 77 args).run tP w= .ok (.enter 77 args) w:=ay Tryz.func77 (by kernel_rfl) rfl args w
theorem aaw (args:Array Value) (w:World):(callFunc 78 args).run tP w= .ok (.enter 78 args) w:=ay Tryz.func78 (by kernel_rfl) rfl args w
theorem arx (args:Array Value) (w:World):(callFunc 79 args).run tP w= .ok (.enter 79 args) w:=ay Tryz.func79 (by kernel_rfl) rfl args w
theorem arz (args:Array Value) (w:World):(callFunc 80 args).run tP w= .ok (.enter 80 args) w:=ay Tryz.func80 (by kernel_rfl) rfl args w
theorem arA (args:Array Value) (w:World):(callFunc 81 args).run tP w= .ok (.enter 81 args) w:=ay Tryz.func81 (by kernel_rfl) rfl args w
theorem F8 (args:Array Value) (w:World):(callFunc 82 args).run tP w= .ok (.enter 82 args) w:=ay Tryz.func82 (by kernel_rfl) rfl args w
theorem arB (args:Array Value) (w:World):(callFunc 83 args).run tP w= .ok (.enter 83 args) w:=ay Tryz.func83 (by kernel_rfl) rfl args w
theorem arC (args:Array Value) (w:World):(callFunc 84 args).run tP w= .ok (.enter 84 args) w:=ay Tryz.func84 (by kernel_rfl) rfl args w
theorem Kk (args:Array Value) (w:World):(callFunc 85 args).run tP w= .ok (.enter 85 args) w:=ay Tryz.func85 (by kernel_rfl) rfl args w
theorem ah5 (args:Array Value) (w:World):(callFunc 86 args).run tP w= .ok (.enter 86 args) w:=ay Tryz.func86 (by kernel_rfl) rfl args w
theorem oD (args:Array Value) (w:World):(callFunc 99 args).run tP w= .ok (.enter 99 args) w:=ay Tryz.func99 (by kernel_rfl) rfl args w
theorem ah6 (args:Array Value) (w:World):(callFunc 100 args).run tP w= .ok (.enter 100 args) w:=ay Tryz.func100 (by kernel_rfl) rfl args w
theorem arD (args:Array Value) (w:World):(callFunc 101 args).run tP w= .ok (.enter 101 args) w:=ay Tryz.func101 (by kernel_rfl) rfl args w
theorem arE (args:Array Value) (w:World):(callFunc 102 args).run tP w= .ok (.enter 102 args) w:=ay Tryz.func102 (by kernel_rfl) rfl args w
theorem arF (args:Array Value) (w:World):(callFunc 103 args).run tP w= .ok (.enter 103 args) w:=ay Tryz.func103 (by kernel_rfl) rfl args w
theorem arG (args:Array Value) (w:World):(callFunc 104 args).run tP w= .ok (.enter 104 args) w:=ay Tryz.func104 (by kernel_rfl) rfl args w
theorem arH (args:Array Value) (w:World):(callFunc 105 args).run tP w= .ok (.enter 105 args) w:=ay Tryz.func105 (by kernel_rfl) rfl args w
theorem SH (args:Array Value) (w:World):(callFunc 107 args).run tP w= .ok (.enter 107 args) w:=ay Tryz.func107 (by kernel_rfl) rfl args w
theorem qy (args:Array Value) (w:World):(callFunc 108 args).run tP w= .ok (.enter 108 args) w:=ay Tryz.func108 (by kernel_rfl) rfl args w
theorem arI (args:Array Value) (w:World):(callFunc 109 args).run tP w= .ok (.enter 109 args) w:=ay Tryz.func109 (by kernel_rfl) rfl args w
theorem zn (args:Array Value) (w:World):(callFunc 110 args).run tP w= .ok (.enter 110 args) w:=ay Tryz.func110 (by kernel_rfl) rfl args w
theorem arJ (args:Array Value) (w:World):(callFunc 111 args).run tP w= .ok (.enter 111 args) w:=ay Tryz.func111 (by kernel_rfl) rfl args w
theorem arK (args:Array Value) (w:World):(callFunc 112 args).run tP w= .ok (.enter 112 args) w:=ay Tryz.func112 (by kernel_rfl) rfl args w
theorem SI (args:Array Value) (w:World):(callFunc 114 args).run tP w= .ok (.enter 114 args) w:=ay Tryz.func114 (by kernel_rfl) rfl args w
theorem DK (args:Array Value) (w:World):(callFunc 115 args).run tP w= .ok (.enter 115 args) w:=ay Tryz.func115 (by kernel_rfl) rfl args w
theorem ah7 (args:Array Value) (w:World):(callFunc 122 args).run tP w= .ok (.enter 122 args) w:=ay Tryz.func122 (by kernel_rfl) rfl args w
theorem NQ (args:Array Value) (w:World):(callFunc 126 args).run tP w= .ok (.enter 126 args) w:=ay Tryz.func126 (by kernel_rfl) rfl args w
theorem aax (args:Array Value) (w:World):(callFunc 127 args).run tP w= .ok (.enter 127 args) w:=ay Tryz.func127 (by kernel_rfl) rfl args w
theorem arL (args:Array Value) (w:World):(callFunc 128 args).run tP w= .ok (.enter 128 args) w:=ay Tryz.func128 (by kernel_rfl) rfl args w
theorem aay (args:Array Value) (w:World):(callFunc 129 args).run tP w= .ok (.enter 129 args) w:=ay Tryz.func129 (by kernel_rfl) rfl args w
theorem SK (args:Array Value) (w:World):(callFunc 130 args).run tP w= .ok (.enter 130 args) w:=ay Tryz.func130 (by kernel_rfl) rfl args w
theorem arM (args:Array Value) (w:World):(callFunc 131 args).run tP w= .ok (.enter 131 args) w:=ay Tryz.func131 (by kernel_rfl) rfl args w
theorem arN (args:Array Value) (w:World):(callFunc 132 args).run tP w= .ok (.enter 132 args) w:=ay Tryz.func132 (by kernel_rfl) rfl args w
theorem ah8 (args:Array Value) (w:World):(callFunc 133 args).run tP w= .ok (.enter 133 args) w:=ay Tryz.func133 (by kernel_rfl) rfl args w
theorem arO (args:Array Value) (w:World):(callFunc 134 args).run tP w= .ok (.enter 134 args) w:=ay Tryz.func134 (by kernel_rfl) rfl args w
theorem ah9 (args:Array Value) (w:World):(callFunc 135 args).run tP w= .ok (.enter 135 args) w:=ay Tryz.func135 (by kernel_rfl) rfl args w
theorem arP (args:Array Value) (w:World):(callFunc 136 args).run tP w= .ok (.enter 136 args) w:=ay Tryz.func136 (by kernel_rfl) rfl args w
theorem aia (args:Array Value) (w:World):(callFunc 137 args).run tP w= .ok (.enter 137 args) w:=ay Tryz.func137 (by kernel_rfl) rfl args w
theorem arQ (args:Array Value) (w:World):(callFunc 138 args).run tP w= .ok (.enter 138 args) w:=ay Tryz.func138 (by kernel_rfl) rfl args w
theorem F9 (args:Array Value) (w:World):(callFunc 139 args).run tP w= .ok (.enter 139 args) w:=ay Tryz.func139 (by kernel_rfl) rfl args w
theorem SL (args:Array Value) (w:World):(callFunc 143 args).run tP w= .ok (.enter 143 args) w:=ay Tryz.func143 (by kernel_rfl) rfl args w
theorem NR (args:Array Value) (w:World):(callFunc 144 args).run tP w= .ok (.enter 144 args) w:=ay Tryz.func144 (by kernel_rfl) rfl args w
theorem arR (args:Array Value) (w:World):(callFunc 145 args).run tP w= .ok (.enter 145 args) w:=ay Tryz.func145 (by kernel_rfl) rfl args w
theorem arS (args:Array Value) (w:World):(callFunc 146 args).run tP w= .ok (.enter 146 args) w:=ay Tryz.func146 (by kernel_rfl) rfl args w
theorem SN (args:Array Value) (w:World):(callFunc 147 args).run tP w= .ok (.enter 147 args) w:=ay Tryz.func147 (by kernel_rfl) rfl args w
theorem arT (args:Array Value) (w:World):(callFunc 148 args).run tP w= .ok (.enter 148 args) w:=ay Tryz.func148 (by kernel_rfl) rfl args w
theorem arU (args:Array Value) (w:World):(callFunc 149 args).run tP w= .ok (.enter 149 args) w:=ay Tryz.func149 (by kernel_rfl) rfl args w
theorem arV (args:Array Value) (w:World):(callFunc 152 args).run tP w= .ok (.enter 152 args) w:=ay Tryz.func152 (by kernel_rfl) rfl args w
theorem aib (args:Array Value) (w:World):(callFunc 153 args).run tP w= .ok (.enter 153 args) w:=ay Tryz.func153 (by kernel_rfl) rfl args w
theorem vH (args:Array Value) (w:World):(callFunc 156 args).run tP w= .ok (.enter 156 args) w:=ay Tryz.func156 (by kernel_rfl) rfl args w
theorem mixed:tP.follows .mixedOrders=true:=by kernel_rfl
end
section
open ChangeShapes WideShapes ChangeAt RowKit
section
variable {P:Program} {N:Nat} {l:Slots} {o:Oper} {w w' w0:World} {B:Nat} {fs:List Fact}
theorem V4 {f:FuncId} {first cap us:List Value} {x:Operand} {xs:List Operand} {ts:Array TypeId} {vs:List Value} (ho:o.op= .call { callee:= .value x,args:=xs.toArray,argTypes:=ts }) (hv:ev l x=some (.func (.func f) first.toArray cap.toArray))
  (Ku: ∀ args w,(callFunc f args).run P w= .ok (.enter f args) w) (hx:NC l xs vs) (hu:first++vs++cap=us):Enter P N l o w f us:=λa F=>by
 subst hu;have h1:=F.evs hx;unfold execOp;simp only [ho,resolve,F.ev hv,Deferred.ofValue,invoke,Sem.run_bind,Sem.run_pure,Result.andThen_ok,List.map_toArray,h1];simp [Ku]
theorem Jk {f:Fn} {xs ys:List Operand} {vs us:List Value} (ho:o.op= .makeFunc f xs.toArray ys.toArray) (hx:NC l xs vs) (hy:NC l ys us):fV P N l o w (.func f vs.toArray us.toArray):=λa F=>by
 have h1:=F.evs hx;have h2:=F.evs hy;unfold execOp;simp only [ho,List.map_toArray,h1,h2];rfl
theorem abe {b off s n:Nat} {row:Array Value} {t:TypeId} {xs:List Value} (i:Nat) (S:St B w0 w fs) (hi:fs[i]? =some (.blk b row t)) (hl:xs.length=n*s) (hx: ∀ (j:Nat) (u:Value),xs[j]? =some u->row[off+j]? =some u):Rd w w.heap.size s (some ⟨b,off,none⟩) n xs:=
 ⟨hl,λ_=>⟨b,off,rfl,S.lt i hi,λj u hu=>S.cl i hi (hx j u hu)⟩⟩
theorem CU {base:Nat} {e:TypeId} {size n c:Nat} {A:Option Addr} {xs:List Value} (h:w.ownsRow base e size (.slice A n c) n xs) (hn:0<n): ∃ g,A=some ⟨g,0,none⟩:=by
 rcases h.2 with ⟨_,h0⟩ | ⟨g,cap,cur,hv,_⟩
 ·omega
 exact ⟨g,by injection hv⟩
theorem St.aaz {e e':TypeId} {s s':Nat} {g n c n' c':Nat} {xs xs':List Value} (i:Nat) (S:St B w0 w fs) (hi:fs[i]? =some (.own e s (.slice (some ⟨g,0,none⟩) n c) n xs)) (hu:sw w g w') (ho:w'.ownsRow B e' s' (.slice (some ⟨g,0,none⟩) n' c') n' xs'):
  St B w0 w' (fs.set i (.own e' s' (.slice (some ⟨g,0,none⟩) n' c') n' xs')):=
 S.turn i hi (hu.next S.low (Fact.l6 (S.all i _ hi) rfl).1) (Nat.le_of_eq hu.size.symm) (λk _ hk=>hu.block k (λe=>hk (by rw [e];rfl))) ho (λk hk=> .inl hk)
theorem Im {α:Type} {enc:α->List Value} {sz:Nat} (hsz: ∀ x,(enc x).length=sz): ∀ (k:Nat) (l:List α),(l.flatMap enc).take (k*sz)++(l.flatMap enc).drop ((k+1)*sz)=(l.eraseIdx k).flatMap enc
 | 0,[]=>by simp
 | 0,x::l=>by rw [List.flatMap_cons,Nat.zero_mul,List.take_zero,List.nil_append,Nat.zero_add,Nat.one_mul,List.drop_left' (hsz x)];rfl
 | k+1,[]=>by simp
 | k+1,x::l=>by
  rw [List.eraseIdx_cons_succ,List.flatMap_cons,List.flatMap_cons,<-Im hsz k l,Nat.succ_mul k,Nat.succ_mul (k+1),Nat.add_comm _ sz,Nat.add_comm _ sz,List.take_append,List.drop_append,hsz x];rw [List.take_of_length_le (by rw [hsz x];omega),List.drop_of_length_le (by rw [hsz x];omega),Nat.add_sub_cancel_left,Nat.add_sub_cancel_left,List.nil_append,List.append_assoc,Nat.succ_mul k,Nat.add_comm sz]
end
theorem aG {B:Nat} {w0 w:World} {fs:List Fact} {s:Nat} (S:St B w0 w fs):St B w0 w (.cZ s none 0 []::fs):=S.cons ⟨Rd.none_,λa h=>by cases h⟩ λk hk=>by cases hk
end
section
open ChangeShapes WideShapes RowKit
inductive Pick (l:Slots):List Nat->Slots->Prop
 | z:Pick l [] []
 | s {k:Nat} {ks:List Nat} {v:Value} {l':Slots}:lk l k=some v->Pick l ks l'->Pick l (k::ks) ((k,v)::l')
theorem Pick.sub {l:Slots} {ks:List Nat} {l':Slots} (h:Pick l ks l'):JO l l':=by
 induction h with
 | z=>exact trivial
 | s h _ ih=>exact ⟨h,ih⟩
inductive iB (f:Fact):List Fact->Nat->List Fact->Prop
 | z {g:Fact} {fs:List Fact}:iB f (g::fs) 0 (f::fs)
 | s {g:Fact} {fs fs':List Fact} {i:Nat}:iB f fs i fs'->iB f (g::fs) (i+1) (g::fs')
theorem iB.eq {f:Fact} {fs fs':List Fact} {i:Nat} (h:iB f fs i fs'):fs.set i f=fs':=by
 induction h with
 | z=>rfl
 | s _ ih=>rw [List.set_cons_succ,ih]
def aic:List Nat->List Fact->List Fact
 | [],fs=>fs
 | i::is,fs=>aic is (fs.eraseIdx i)
theorem St.kL {B:Nat} {w0 w:World}: ∀ {fs:List Fact} (_:St B w0 w fs) (is:List Nat),St B w0 w (aic is fs)
 | _,S,[]=>S
 | _,S,i::is=>(St.del i S).kL is
theorem Ho {α:Type} {enc:α->List Value} {w:World} {B sz n:Nat} {A:Option Addr} {l:List α} (k:Nat) (h:Rd w B sz A n (l.flatMap enc)) (hk:k<n) (hs: ∀ x,(enc x).length=sz:=by exact λ_=>rfl) (hz:Nat.blt 0 sz=true:=by exact rfl): ∃ x,l[k]? =some x:=by
 have h1:=h.1;rw [gX hs] at h1;have h2:l.length=n:=Nat.eq_of_mul_eq_mul_right (Nat.le_of_ble_eq_true hz) h1;exact ⟨_,List.getElem?_eq_getElem (by omega)⟩
section
variable {P:Program} {N:Nat} {l l':Slots} {w w' w0:World} {ops:Array Oper} {o:Oper} {rest:List Oper} {Q:Exit->Act->World->Prop} {d B:Nat} {v p:Value} {fs fs':List Fact} {ex:Exit}
theorem qk (ks:List Nat) (h:wQ N Q .normal l' w) (hp:Pick l ks l':=by repeat' first | exact Pick.z | apply Pick.s rfl):wL P N ops Q [] l w:=Dw (bU hp.sub h)
theorem pk (ks:List Nat) (h:wQ N Q ex l' w) (hp:Pick l ks l':=by repeat' first | exact Pick.z | apply Pick.s rfl):wQ N Q ex l w:=bU hp.sub h
theorem cw {c:Code} (ks:List Nat) (h:wC P N c Q l' w) (hp:Pick l ks l':=by repeat' first | exact Pick.z | apply Pick.s rfl):wC P N c Q l w:=bn hp.sub h
section
variable {x:Operand}
theorem ym (ho:o.op= .move x:=by exact rfl) (hx:ev l x=some v:=by exact rfl):fV P N l o w v:=aaV ho hx
theorem ya (ho:o.op= .assign x:=by exact rfl) (hx:ev l x=some v:=by exact rfl):fV P N l o w v:=Pk ho hx
theorem yx {k:Nat} {vs:Array Value} (ho:o.op= .extract x k:=by exact rfl) (hx:ev l x=some (.tuple vs):=by exact rfl) (hk:vs[k]? =some v:=by exact rfl):fV P N l o w v:=XD ho hx hk
theorem DL {c y:Operand} (ho:o.op= .pick c x y:=by exact rfl) (hc:ev l c=some (.bool true):=by exact rfl) (hx:ev l x=some v:=by exact rfl):fV P N l o w v:=acj ho hc hx
theorem qG {c y:Operand} (ho:o.op= .pick c x y:=by exact rfl) (hc:ev l c=some (.bool false):=by exact rfl) (hx:ev l y=some v:=by exact rfl):fV P N l o w v:=acn ho hc hx
theorem yno {t:TypeId} {b c:Bool} (ho:o.op= .unOp .not t x:=by exact rfl) (hx:ev l x=some (.bool b):=by exact rfl) (hb:(!b)=c:=by exact rfl):fV P N l o w (.bool c):=hb▸aaW ho hx arh
theorem fu {s:TypeId} {f b o0:Nat} {g:Nat->Nat} (o':Nat) (hf: ∀ (b o:Nat) (w:World),(Instr.fieldAt s (.pointer (some ⟨b,o,none⟩)) f).run P w= .ok (.pointer (some ⟨b,g o,none⟩)) w) (ho:o.op= .fieldAddr s x f:=by exact rfl)
  (hx:ev l x=some (.pointer (some ⟨b,o0,none⟩)):=by exact rfl) (he:g o0=o':=by exact rfl):fV P N l o w (.pointer (some ⟨b,o',none⟩)):=he▸FC ho hx (hf b o0 w)
theorem iW {t:TypeId} (ho:o.op= .build t ([]:List (Nat×Operand)).toArray:=by exact rfl) (hr:(Instr.build t ([]:List (Nat×Value)).toArray).run P w= .ok (.agg #[iV 0,iV 0,iV 0,iV 0,iV 0,.slice none 0 0]) w:=by kernel_rfl):fV P N l o w (.agg #[iV 0,iV 0,iV 0,iV 0,iV 0,.slice none 0 0]):=Cc (vs:=[]) ho trivial hr
theorem yz {t:TypeId} (ho:o.op= .build t ([]:List (Nat×Operand)).toArray:=by exact rfl) (hr:(Instr.build t ([]:List (Nat×Value)).toArray).run P w= .ok v w:=by kernel_rfl):fV P N l o w v:=Cc (vs:=[]) ho trivial hr
end
section
variable {t tt:TypeId} {kd:IntKind} {xo yo:Operand} {x y:Int}
theorem SQ (h:x<y) (ho:o.op= .binOp .lss t xo yo tt:=by exact rfl) (hx:ev l xo=some (.int kd x):=by exact rfl) (hy:ev l yo=some (.int kd y):=by exact rfl):fV P N l o w (.bool true):=aF ho hx hy (Gi h)
theorem Ba (ho:o.op= .binOp .lss t xo yo tt:=by exact rfl) (hx:ev l xo=some (.int kd x):=by exact rfl) (hy:ev l yo=some (.int kd y):=by exact rfl) (h:x<y:=by decide):fV P N l o w (.bool true):=aF ho hx hy (Gi h)
theorem SS (h: ¬ x<y) (ho:o.op= .binOp .lss t xo yo tt:=by exact rfl) (hx:ev l xo=some (.int kd x):=by exact rfl) (hy:ev l yo=some (.int kd y):=by exact rfl):fV P N l o w (.bool false):=aF ho hx hy (Gj h)
theorem aaA (ho:o.op= .binOp .lss t xo yo tt:=by exact rfl) (hx:ev l xo=some (.int kd x):=by exact rfl) (hy:ev l yo=some (.int kd y):=by exact rfl) (h: ¬ x<y:=by decide):fV P N l o w (.bool false):=aF ho hx hy (Gj h)
theorem SV (h:y<=x) (ho:o.op= .binOp .geq t xo yo tt:=by exact rfl) (hx:ev l xo=some (.int kd x):=by exact rfl) (hy:ev l yo=some (.int kd y):=by exact rfl):fV P N l o w (.bool true):=aF ho hx hy (MV h)
theorem SX (h: ¬ y<=x) (ho:o.op= .binOp .geq t xo yo tt:=by exact rfl) (hx:ev l xo=some (.int kd x):=by exact rfl) (hy:ev l yo=some (.int kd y):=by exact rfl):fV P N l o w (.bool false):=aF ho hx hy (Gl h)
theorem aaB (ho:o.op= .binOp .geq t xo yo tt:=by exact rfl) (hx:ev l xo=some (.int kd x):=by exact rfl) (hy:ev l yo=some (.int kd y):=by exact rfl) (h: ¬ y<=x:=by decide):fV P N l o w (.bool false):=aF ho hx hy (Gl h)
theorem DN (ho:o.op= .binOp .eql t xo yo tt:=by exact rfl) (hx:ev l xo=some (.int kd x):=by exact rfl) (hy:ev l yo=some (.int kd y):=by exact rfl) (h:x=y:=by decide):fV P N l o w (.bool true):=aF ho hx hy (MW h)
theorem arW (h: ¬ x=y) (ho:o.op= .binOp .eql t xo yo tt:=by exact rfl) (hx:ev l xo=some (.int kd x):=by exact rfl) (hy:ev l yo=some (.int kd y):=by exact rfl):fV P N l o w (.bool false):=aF ho hx hy (Gm h)
theorem Kl (ho:o.op= .binOp .eql t xo yo tt:=by exact rfl) (hx:ev l xo=some (.int kd x):=by exact rfl) (hy:ev l yo=some (.int kd y):=by exact rfl) (h: ¬ x=y:=by decide):fV P N l o w (.bool false):=aF ho hx hy (Gm h)
theorem aie (ho:o.op= .binOp .neq t xo yo tt:=by exact rfl) (hx:ev l xo=some (.int kd x):=by exact rfl) (hy:ev l yo=some (.int kd y):=by exact rfl) (h: ¬ x=y:=by decide):fV P N l o w (.bool true):=aF ho hx hy (Gn h)
theorem arX (h:x=y) (ho:o.op= .binOp .neq t xo yo tt:=by exact rfl) (hx:ev l xo=some (.int kd x):=by exact rfl) (hy:ev l yo=some (.int kd y):=by exact rfl):fV P N l o w (.bool false):=aF ho hx hy (Ce h)
theorem Ga (ho:o.op= .binOp .neq t xo yo tt:=by exact rfl) (hx:ev l xo=some (.int kd x):=by exact rfl) (hy:ev l yo=some (.int kd y):=by exact rfl) (h:x=y:=by decide):fV P N l o w (.bool false):=aF ho hx hy (Ce h)
end
section
variable {C:World->Prop} {Qa:Act->Prop} {j:Nat} {t:Nat} {u:Value} {x:Operand}
theorem vv (hy:fV P N l o w v) (h:wL P N ops Q rest ((d,v)::l) w) (hw:o.guard=none:=by exact rfl) (hd:o.dst=some d:=by exact rfl) (hN:Nat.blt d N=true:=by exact rfl):wL P N ops Q (o::rest) l w:=Dx (wn hw) hd hN hy h
theorem vm (h:wL P N ops Q rest ((d,v)::l) w) (hw:o.guard=none:=by exact rfl) (hd:o.dst=some d:=by exact rfl) (hN:Nat.blt d N=true:=by exact rfl) (ho:o.op= .move x:=by exact rfl) (hx:ev l x=some v:=by exact rfl):wL P N ops Q (o::rest) l w:=Dx (wn hw) hd hN (aaV ho hx) h
theorem va (h:wL P N ops Q rest ((d,v)::l) w) (hw:o.guard=none:=by exact rfl) (hd:o.dst=some d:=by exact rfl) (hN:Nat.blt d N=true:=by exact rfl) (ho:o.op= .assign x:=by exact rfl) (hx:ev l x=some v:=by exact rfl):wL P N ops Q (o::rest) l w:=Dx (wn hw) hd hN (Pk ho hx) h
theorem vg {b:Bool} (hy:fV P N l o w v) (h:wL P N ops Q rest ((d,v)::l) w) (hg:o.guard=some (j,b):=by exact rfl) (hj:(ops[j]?).bind (·.dst)=some t:=by exact rfl) (hv:lk l t=some u:=by exact rfl) (hr:(yl u==some b)=true:=by exact rfl)
  (hd:o.dst=some d:=by exact rfl) (hN:Nat.blt d N=true:=by exact rfl):wL P N ops Q (o::rest) l w:=Dx (wg hg hj hv hr) hd hN hy h
theorem vs {b:Bool} (h:wL P N ops Q rest ((d,undef)::l) w) (hg:o.guard=some (j,b):=by exact rfl) (hj:(ops[j]?).bind (·.dst)=some t:=by exact rfl) (hv:lk l t=some u:=by exact rfl) (hr:(yl u==some b)=false:=by exact rfl) (hd:o.dst=some d:=by exact rfl) (hN:Nat.blt d N=true:=by exact rfl):wL P N ops Q (o::rest) l w:=VN (wg hg hj hv hr) hd hN h
theorem uv (hy: ∀ w,C w->fV P N l o w v) (h:wU P N ops C Qa rest ((d,v)::l)) (hw:o.guard=none:=by exact rfl) (hd:o.dst=some d:=by exact rfl) (hN:Nat.blt d N=true:=by exact rfl):wU P N ops C Qa (o::rest) l:=Ll (wn hw) hd hN hy h
theorem ug {b:Bool} (hy: ∀ w,C w->fV P N l o w v) (h:wU P N ops C Qa rest ((d,v)::l)) (hg:o.guard=some (j,b):=by exact rfl) (hj:(ops[j]?).bind (·.dst)=some t:=by exact rfl) (hv:lk l t=some u:=by exact rfl) (hr:(yl u==some b)=true:=by exact rfl)
  (hd:o.dst=some d:=by exact rfl) (hN:Nat.blt d N=true:=by exact rfl):wU P N ops C Qa (o::rest) l:=Ll (wg hg hj hv hr) hd hN hy h
theorem usk {b:Bool} (h:wU P N ops C Qa rest ((d,undef)::l)) (hg:o.guard=some (j,b):=by exact rfl) (hj:(ops[j]?).bind (·.dst)=some t:=by exact rfl) (hv:lk l t=some u:=by exact rfl) (hr:(yl u==some b)=false:=by exact rfl)
  (hd:o.dst=some d:=by exact rfl) (hN:Nat.blt d N=true:=by exact rfl):wU P N ops C Qa (o::rest) l:=VT (wg hg hj hv hr) hd hN h
theorem ak {n:Nat} {listed listed':Array Bool} (i:Nat) (hi:ops[i]? =some o) (hS:C w) (hy: ∀ w,C w->fV P N l o w v) (h:wA P N ops Q C n listed' ((d,v)::l) w) (hs:Region.noSelect ops=true:=by kernel_rfl) (hf:Region.free .any ops listed i=true:=by kernel_rfl)
  (hr:(Region.ready .any ops listed).contains i=true:=by kernel_rfl) (hl:listed.setIfInBounds i true=listed':=by exact rfl) (hw:o.guard=none:=by exact rfl) (hd:o.dst=some d:=by exact rfl) (hN:Nat.blt d N=true:=by exact rfl):wA P N ops Q C (n+1) listed l w:=Cg hi hs hf hr hS hl (wn hw) hd hN hy h
theorem gk {n m:Nat} {listed listed':Array Bool} (i:Nat) (hi:ops[i]? =some o) (hS:C w) (hy: ∀ w,C w->fV P N l o w v) (h:wG P N ops Q C n m listed' ((d,v)::l) w) (hs:Region.noSelect ops=true:=by kernel_rfl) (hf:Region.free .any ops listed i=true:=by kernel_rfl)
  (hr:(Region.ready .any ops listed).contains i=true:=by kernel_rfl) (hnl:listed.getD n true=false:=by exact rfl) (hni:vV ops n i=true:=by kernel_rfl) (hne:Nat.beq n i=false:=by exact rfl) (hl:listed.setIfInBounds i true=listed':=by exact rfl) (hw:o.guard=none:=by exact rfl)
  (hd:o.dst=some d:=by exact rfl) (hN:Nat.blt d N=true:=by exact rfl):wG P N ops Q C n (m+1) listed l w:=Ci hi hs hf hr hnl hni hne hS hl (wn hw) hd hN hy h
theorem aX {n:Nat} {listed:Array Bool} (r:Nat) (h:wK P N ops Q C n r listed l w) (hr:Region.ready .any ops listed=[r]:=by kernel_rfl):wA P N ops Q C (n+1) listed l w:=ali hr h
end
section
variable {b m f:Nat} {row row' cs:Array Value} {t ty:TypeId} {x y:Operand} {ds:TypeDesc} {z u:Value}
theorem sa (i:Nat) (S:St B w0 w fs) (hz:(P.info? ty).map (·.size)=some m) (h: ∀ w',St B w0 w' fs'->wL P N ops Q rest l w') (hw:o.guard=none:=by exact rfl) (hd:o.dst=none:=by exact rfl) (ho:o.op= .store ty x y:=by exact rfl)
  (hx:ev l x=some (.pointer (some ⟨b,0,none⟩)):=by exact rfl) (hy:ev l y=some v:=by exact rfl) (hi:fs[i]? =some (.blk b row t):=by exact rfl) (hv:v.cells=cs:=by exact rfl) (hm:cs.size=m:=by exact rfl)
  (h1:cs.toList.all (·.oneCell')=true:=by exact rfl) (hr:Nat.ble m row.size=true:=by exact rfl) (hs:row.size=cs.size:=by exact rfl) (hf:iB (.blk b cs t) fs i fs':=by repeat' first | exact iB.z | apply iB.s):wL P N ops Q (o::rest) l w:=
 zf i S (wn hw) hd ho hx hy hi hv hz hm (bL h1) (by rw [Nat.zero_add];exact Nat.le_of_ble_eq_true hr) (mo hs) hf.eq h
theorem sr {off:Nat} {row':Array Value} (i:Nat) (S:St B w0 w fs) (hz:(P.info? ty).map (·.size)=some m) (h: ∀ w',St B w0 w' fs'->wL P N ops Q rest l w') (hw:o.guard=none:=by exact rfl) (hd:o.dst=none:=by exact rfl) (ho:o.op= .store ty x y:=by exact rfl)
  (hx:ev l x=some (.pointer (some ⟨b,off,none⟩)):=by exact rfl) (hy:ev l y=some v:=by exact rfl) (hi:fs[i]? =some (.blk b row t):=by exact rfl) (hv:v.cells=cs:=by exact rfl) (hm:cs.size=m:=by exact rfl)
  (h1:cs.toList.all (·.oneCell')=true:=by exact rfl) (hr:Nat.ble (off+m) row.size=true:=by exact rfl) (hs:dn row off cs.toList=row':=by exact rfl) (hf:iB (.blk b row' t) fs i fs':=by repeat' first | exact iB.z | apply iB.s):wL P N ops Q (o::rest) l w:=
 zf i S (wn hw) hd ho hx hy hi hv hz hm (bL h1) (Nat.le_of_ble_eq_true hr) hs hf.eq h
theorem sn {C:World->Prop} {n:Nat} {listed listed':Array Bool} (j:Nat) (hi':ops[j]? =some o) (i:Nat) (S:St B w0 w fs) (hz:(P.info? ty).map (·.size)=some m) (h: ∀ w',St B w0 w' fs'->C w'/\wA P N ops Q C n listed' l w') (hl:listed.setIfInBounds j true=listed':=by exact rfl)
  (hw:o.guard=none:=by exact rfl) (hd:o.dst=none:=by exact rfl) (ho:o.op= .store ty x y:=by exact rfl) (hx:ev l x=some (.pointer (some ⟨b,0,none⟩)):=by exact rfl) (hy:ev l y=some v:=by exact rfl) (hi:fs[i]? =some (.blk b row t):=by exact rfl) (hv:v.cells=cs:=by exact rfl)
  (hm:cs.size=m:=by exact rfl) (h1:cs.toList.all (·.oneCell')=true:=by exact rfl) (hr:Nat.ble m row.size=true:=by exact rfl) (hs:row.size=cs.size:=by exact rfl) (hf:iB (.blk b cs t) fs i fs':=by repeat' first | exact iB.z | apply iB.s):wK P N ops Q C n j listed l w:=
 sG hi' hl i S (wn hw) hd ho hx hy hi hv hz hm (bL h1) (by rw [Nat.zero_add];exact Nat.le_of_ble_eq_true hr) (mo hs) hf.eq h
theorem vY {vs:List Value} {R:Ending->World->Prop} {xs:List Operand} {ts:Array TypeId} {j tg:Nat} {bb:Bool} (Ku: ∀ args w,(callFunc f args).run P w= .ok (.enter f args) w) (hc:Calls P f vs.toArray w R) (h: ∀ e w',R e w'-> ∃ v,e= .returned v/\wL P N ops Q rest ((d,v)::l) w')
  (hg:o.guard=some (j,bb):=by exact rfl) (hj:(ops[j]?).bind (·.dst)=some tg:=by exact rfl) (hv:lk l tg=some u:=by exact rfl) (hr:(yl u==some bb)=true:=by exact rfl) (hd:o.dst=some d:=by exact rfl) (hN:Nat.blt d N=true:=by exact rfl)
  (ho:o.op= .call { callee:= .value (.func f),args:=xs.toArray,argTypes:=ts }:=by exact rfl) (hx:NC l xs vs:=by repeat' first | exact trivial | refine ⟨rfl,?_⟩):wL P N ops Q (o::rest) l w:=Gg (wg hg hj hv hr) hd hN (iM ho Ku hx) hc h
theorem nb {row:Array Value} (S:St B w0 w fs) (h: ∀ b w',St B w0 w' (.blk b row t::fs)->wL P N ops Q rest ((d,.pointer (some ⟨b,0,none⟩))::l) w') (hw:o.guard=none:=by exact rfl) (hd:o.dst=some d:=by exact rfl)
  (hN:Nat.blt d N=true:=by exact rfl) (ho:o.op= .box t x:=by exact rfl) (hx:ev l x=some p:=by exact rfl) (hc:p.cells=row:=by exact rfl):wL P N ops Q (o::rest) l w:=lJ (V:=λb=> .pointer (some ⟨b,0,none⟩)) S (wn hw) hd hN (aat ho hx hc) h
theorem dN {vs:List Value} {R:Ending->World->Prop} {xs:List Operand} {ts:Array TypeId} (Ku: ∀ args w,(callFunc f args).run P w= .ok (.enter f args) w) (hc:Calls P f vs.toArray w R) (h: ∀ e w',R e w'-> ∃ v,e= .returned v/\wL P N ops Q rest ((d,v)::l) w')
  (hw:o.guard=none:=by exact rfl) (hd:o.dst=some d:=by exact rfl) (hN:Nat.blt d N=true:=by exact rfl) (ho:o.op= .call { callee:= .value (.func f),args:=xs.toArray,argTypes:=ts }:=by exact rfl) (hx:NC l xs vs:=by repeat' first | exact trivial | refine ⟨rfl,?_⟩):
  wL P N ops Q (o::rest) l w:=Gg (wn hw) hd hN (iM ho Ku hx) hc h
theorem cab {vs:List Value} {xs:List Operand} {ts:Array TypeId} (Ku: ∀ args w,(callFunc f args).run P w= .ok (.enter f args) w) (S:St B w0 w fs) (hc:Calls P f vs.toArray w λe w'=>e= .returned v/\Below w.heap.size w w') (h: ∀ w',St B w0 w' fs->wL P N ops Q rest ((d,v)::l) w')
  (hw:o.guard=none:=by exact rfl) (hd:o.dst=some d:=by exact rfl) (hN:Nat.blt d N=true:=by exact rfl) (ho:o.op= .call { callee:= .value (.func f),args:=xs.toArray,argTypes:=ts }:=by exact rfl) (hx:NC l xs vs:=by repeat' first | exact trivial | refine ⟨rfl,?_⟩):
  wL P N ops Q (o::rest) l w:=Gg (wn hw) hd hN (iM ho Ku hx) hc λ_ w' h'=>⟨v,h'.1,h w' (S.on h'.2)⟩
theorem pt {fn:Func} {R:Ending->World->Prop} {j:Nat} (hR:R (.returned (qx [v])) w) (hr:fn.results=[ResultVar.tmp j].toArray:=by exact rfl) (h2:lk l j=some v:=by exact rfl):wQ N (bodyPost P fn R) .ret l w:=dR (vs:=[v]) hr ⟨h2,trivial⟩ hR
theorem gy {fn:Func} {c:Code} {vs:List Value} {R:Ending->World->Prop} (N:Nat) (hf:P.funcs[f]? =some fn) (h:wC P N c (bodyPost P fn R) (ents 0 vs) w) (hb:fn.body=some c:=by exact rfl) (hn:fn.ntmps=N:=by exact rfl) (hN:Nat.ble vs.length N=true:=by exact rfl):Calls P f vs.toArray w R:=Fx hf hb hn hN h
end
section
theorem AJ {c6 c8:Code} {q3:Exit->Act->World->Prop} {o4:Operand} {i10:Nat} {os9:List Oper} (h:wL P N os9.toArray (Exit.then (c8.wp P q3) q3) os9 l w) (hc0:ev l o4=some (.bool true):=by exact rfl):wQ N (Exit.then ((Code.cond o4 (Code.seq (Code.region i10 os9.toArray false) c8) c6).wp P q3) q3) .normal l w:=aI (iT hc0 (aH (aB h)))
theorem Gb {c5:Code} {q3:Exit->Act->World->Prop} {i7:Nat} {os6:List Oper} (h:wL P N os6.toArray (Exit.then (c5.wp P q3) q3) os6 l w):wQ N (Exit.then ((Code.seq (Code.region i7 os6.toArray false) c5).wp P q3) q3) .normal l w:=aI (aH (aB h))
theorem yw {c5 c7:Code} {q3:Exit->Act->World->Prop} {i9:Nat} {os8:List Oper} (h:wL P N os8.toArray (Exit.then (c7.wp P (Exit.then (c5.wp P q3) q3)) (Exit.then (c5.wp P q3) q3)) os8 l w):wQ N (Exit.then ((Code.seq (Code.seq (Code.region i9 os8.toArray false) c7) c5).wp P q3) q3) .normal l w:=aI (aH (aH (aB h)))
theorem av1 {q3:Exit->Act->World->Prop} (h:wQ N q3 .ret l w):wQ N (Exit.then (Code.ret.wp P q3) q3) .normal l w:=aI (nG h)
theorem acu {c5 c10:Code} {q8:Exit->Act->World->Prop} {o4:Operand} {i12:Nat} {ad9:List Oper} (h:wL P N ad9.toArray (Exit.then (c10.wp P q8) q8) ad9 l w) (hc0:ev l o4=some (.bool false):=by exact rfl):wQ N (Exit.then ((Code.cond o4 c5 Code.skip).wp P (Exit.then ((Code.seq (Code.region i12 ad9.toArray false) c10).wp P q8) q8)) (Exit.then ((Code.seq (Code.region i12 ad9.toArray false) c10).wp P q8) q8)) .normal l w:=aI (dD hc0 (gG (aI (aH (aB h)))))
theorem XJ {c5 c10 c12:Code} {q8:Exit->Act->World->Prop} {o4:Operand} {i14:Nat} {aea:List Oper} (h:wL P N aea.toArray (Exit.then (c12.wp P (Exit.then (c10.wp P q8) q8)) (Exit.then (c10.wp P q8) q8)) aea l w) (hc0:ev l o4=some (.bool false):=by exact rfl):wQ N (Exit.then ((Code.cond o4 c5 Code.skip).wp P (Exit.then ((Code.seq (Code.seq (Code.region i14 aea.toArray false) c12) c10).wp P q8) q8)) (Exit.then ((Code.seq (Code.seq (Code.region i14 aea.toArray false) c12) c10).wp P q8) q8)) .normal l w:=aI (dD hc0 (gG (aI (aH (aH (aB h))))))
theorem av2 {c4:Code} {q2:Exit->Act->World->Prop} {i6:Nat} {os5:List Oper} (h:wL P N os5.toArray (Exit.then (c4.wp P q2) q2) os5 l w):wC P N (Code.seq (Code.region i6 os5.toArray false) c4) q2 l w:=aH (aB h)
end
end
end
section
open ChangeShapes WideShapes ChangeAt RowKit
section
variable {P:Program} {N:Nat} {l:Slots} {w w' w0:World} {B:Nat} {fs fs':List Fact} {ops:Array Oper} {o:Oper} {rest:List Oper} {Q:Exit->Act->World->Prop} {v:Value} {d:Nat}
theorem Rd.abf {e:TypeId} {s n c:Nat} {A:Option Addr} {xs:List Value} (h:nE w B e s A n c xs):Rd w w.heap.size s A n xs:=by
 obtain ⟨h1,h2,h3,⟨rfl,h4⟩ | ⟨g,o,cur,rfl,h4,h5,h6,h7⟩⟩:=h
 ·exact ⟨h1,λhn=>absurd hn (by omega)⟩
 refine ⟨h1,λ_=>⟨g,o,rfl,(Array.getElem?_eq_some_iff.1 h5).1,λj u hu=>?_⟩⟩;rw [<-h7] at hu;have hj:j<n*s:=by
  have:=(List.getElem?_eq_some_iff.1 hu).1;rw [List.length_take] at this;omega
 rw [List.getElem?_take_of_lt hj,List.getElem?_drop] at hu;rw [cell_of_row w g (o+j) _ e (0,0) h5];simpa using hu
theorem nE.vS (w:World) (B:Nat) (e:TypeId) (s:Nat):nE w B e s none 0 0 []:=⟨by simp,Nat.le_refl _,Nat.zero_le _,.inl ⟨rfl,rfl⟩⟩
theorem nE.rO {e:TypeId} {s n c:Nat} {A:Option Addr} {xs:List Value} (h:w.ownsRow B e s (.slice A n c) n xs):nE w B e s A n c xs:=by
 obtain ⟨h1,⟨h2,rfl⟩ | ⟨g,cap,cur,hv,hg,hh,hnc,hcm,hsz,htk⟩⟩:=h
 ·injection h2 with a b c'
  subst a;subst c';exact ⟨h1,Nat.le_refl _,Nat.zero_le _,.inl ⟨rfl,rfl⟩⟩
 injection hv with a b c'
 subst a;subst c';exact ⟨h1,hnc,hcm,.inr ⟨g,0,cur,rfl,hg,hh,by omega,by simpa using htk⟩⟩
theorem nE.cut {e:TypeId} {s n c k:Nat} {A:Option Addr} {xs:List Value} (h:nE w B e s A n c xs) (hk:k<=n):nE w B e s (if c=k then A else A.map (·.add (k*s))) (n-k) (c-k) (xs.drop (k*s)):=by
 obtain ⟨h1,h2,h3,h4⟩:=h;refine ⟨by rw [List.length_drop,h1,Nat.sub_mul],by omega,by omega,?_⟩
 rcases h4 with ⟨rfl,h4⟩ | ⟨g,o,cur,rfl,h4,h5,h6,h7⟩
 ·exact .inl ⟨by split<;>rfl,by omega⟩
 refine .inr ?_;by_cases hc:c=k
 ·rw [if_pos hc];have hn:n=k:=by omega
  refine ⟨g,o,cur,rfl,h4,h5,by rw [show c-k=0 by omega];omega,?_⟩;rw [show n-k=0 by omega,Nat.zero_mul,List.take_zero,<-h7,hn,List.drop_take,Nat.sub_self,List.take_zero]
 rw [if_neg hc];refine ⟨g,o+k*s,cur,by simp [Addr.add],h4,h5,?_,?_⟩
 ·have:k*s+(c-k)*s=c*s:=by rw [<-Nat.add_mul];congr 1;omega
  omega
 rw [<-h7,List.drop_take,List.drop_drop,<-Nat.sub_mul]
theorem JV (w:World) (B:Nat) (t ty e:TypeId) (i:TypeInfo) (z:Value) (size bytes:Nat) (ht:P.underlying t=some (.slice e)) (hi:P.info? e=some i) (hz:i.zero=some z)
    (hsize:i.size=size) (hby:i.bytes=bytes) (hzs:z.cells.size=size) (hsz:0<size) (A:Option Addr) (n c:Nat) (xs:List Value) (hown:nE w B e size A n c xs)
    (a:Addr) (m c2:Nat) (news:List Value) (hl:news.length=m*size) (hnews: ∀ j u,news[j]? =some u->w.cell? (a.add j)=some u) (h1: ∀ u∈news,u.oneCell'=true)
    (h63:n+m<=maxLen) (hbytes:(n+m)*bytes<=140737488355328) (hbase:B<=w.heap.size) (hm:0<m):
    ∃ A' c' w',(Builtin.append_ #[t,t] ty #[.slice A n c,.slice (some a) m c2]).run P w= .ok (.slice A' (n+m) c') w'/\nE w' B e size A' (n+m) c' (xs++news)/\w.grownBy w' (A.map (·.block))/\
      (A'.map (·.block)=A.map (·.block)\/A'.map (·.block)=some w.heap.size):=by
  subst hsize;subst hby;have hsmall:n+m<=9223372036854775807:=by simp only [maxLen] at h63;omega
  have hrd:=Rd.abf hown;obtain ⟨hx1,hx2,hx3,hx4⟩:=hown;have hlen:(xs++news).length=(n+m)*i.size:=by rw [List.length_append,hx1,hl,Nat.add_mul]
  have grown: ∀ (old:Nat),old<n+m-> ∀ (row:Option Nat),
      nE (w.drew.alloc (.cells (xs.toArray++news.toArray++Builtin.zeroCells z.cells (grownCap w (n+m) old e-(n+m))) e)) B e i.size (some ⟨w.heap.size,0,none⟩) (n+m) (grownCap w (n+m) old e) (xs++news)/\
      w.grownBy (w.drew.alloc (.cells (xs.toArray++news.toArray++Builtin.zeroCells z.cells (grownCap w (n+m) old e-(n+m))) e)) row:=by
    intro old ho row;have hge:=grownCap_ge w (n+m) old e;have hcm:grownCap w (n+m) old e<=maxLen:=grownCap_le_maxLen w (n+m) old e h63;refine ⟨⟨hlen,hge,hcm,.inr ⟨w.heap.size,0,_,rfl,hbase,heap_alloc_new w.drew _,?_,?_⟩⟩,⟨rfl,rfl,rfl,by simp,λk hk _=>heap_alloc_old w.drew _ hk⟩⟩
    · simp only [Array.size_append,List.size_toArray,size_zeroCells,hzs,hx1,hl,<-Nat.add_mul]
      rw [Nat.zero_add];refine Nat.mul_le_mul_right _ ?_;omega
    · simp only [Array.toList_append,List.append_assoc,List.drop_zero]
      rw [<-List.append_assoc,<-hlen];exact List.take_left
  rcases hx4 with ⟨rfl,rfl⟩ | ⟨g,of,cur,rfl,hg,hh,hcs,htake⟩
  · have hn0:n=0:=by omega
    subst hn0;have hx:xs=[]:=List.eq_nil_of_length_eq_zero (by simpa using hx1);subst hx;have hr:=run_append_nil (P:=P) w t ty e i z ht hi hz a m c2 news hl hnews (by omega) (by omega) (by have hb:=hbytes;simp only [Nat.zero_add] at hb;omega);have hgr:=grown 0 (by omega) none;simp only [Nat.zero_add,List.nil_append,Array.empty_append] at hgr⊢;exact ⟨_,_,_,hr,hgr.1,hgr.2,Or.inr rfl⟩
  · by_cases hroom:n+m<=c
    · have hle:(n+m)*i.size<=c*i.size:=Nat.mul_le_mul_right _ hroom
      have hfit:of+n*i.size+news.length<=cur.size:=by rw [hl,Nat.add_assoc,<-Nat.add_mul];omega
      have hb:fK w g cur e:=⟨hh⟩;have hr:=run_append_room_cells (P:=P) (w:=w) t ty e i ht hi g of n c a m c2 news hl hnews h1 hroom
        (λj hj=>by rw [hb.cell (k:=of+n*i.size+j) (Array.getElem?_eq_getElem (by omega))];rfl) (λj _=>hb.free _)
      have hb':=jq news (of+n*i.size) hb;refine ⟨_,_,_,hr,⟨hlen,hroom,hx3,.inr ⟨g,of,_,rfl,hg,hb'.blk,by rw [mJ];exact hcs,?_⟩⟩,?_,Or.inl rfl⟩
      · rw [gQ _ _ _ hfit,<-hlen]
        have e1:(cur.toList.take (of+n*i.size)).drop of=xs:=by rw [<-htake,List.drop_take];congr 1;omega
        have e2:of<=(cur.toList.take (of+n*i.size)).length:=by rw [List.length_take,Array.length_toList];omega
        rw [List.append_assoc,List.drop_append_of_le_length e2,e1,<-List.append_assoc];exact List.take_left
      · have hu:=jr g news (of+n*i.size) w
        exact ⟨hu.os,hu.tape,hu.output,Nat.le_of_eq hu.size.symm,λk _ hk=>hu.block k (λe=>hk (by simp [e]))⟩
    · have hr:=run_append_grow (P:=P) w t ty e i z ht hi hz ⟨g,of,none⟩ n c xs hx1 (λj u hu=>by
          have hj:j<n*i.size:=by have:=(List.getElem?_eq_some_iff.1 hu).1;omega
          obtain ⟨b,off,e1,_,hc⟩:=hrd.2 (Nat.pos_of_ne_zero λh0=>by subst h0;omega)
          injection e1 with e1
          injection e1 with e1 e2
          subst e1;subst e2;rw [Go.WideShapes.add_plain];exact hc j u hu) a m c2 news hl hnews (by omega) (by omega) (growslice_fits (by omega) hbytes)
      have hgr:=grown c (by omega) (some g);exact ⟨_,_,_,hr,hgr.1,hgr.2,Or.inr rfl⟩
theorem St.has {f:Fact} (S:St B w0 w fs) (h:f∈fs):f.holds B w:=by
 obtain ⟨i,hi⟩:=List.mem_iff_getElem?.1 h;exact S.all i f hi
theorem St.hblk {b:Nat} {row:Array Value} {t:TypeId} (S:St B w0 w fs) (h:Fact.blk b row t∈fs):fK w b row t:=(S.has h).2
def Fact.apart (f g:Fact):Prop:= ∀ k,f.foot=some k->g.foot≠some k
theorem Fact.apart.symm {f g:Fact} (h:f.apart g):g.apart f:=λk h1 h2=>h k h2 h1
theorem St.iff:St B w0 w fs↔Below B w0 w/\B<=w.heap.size/\(∀ f∈fs,f.holds B w)/\fs.Pairwise Fact.apart:=by
 constructor
 ·intro S;refine ⟨S.low,S.base,λf hf=>S.has hf,List.pairwise_iff_getElem.2 λi j hi hj hij=>?_⟩;exact S.sep i j _ _ (by omega) (List.getElem?_eq_getElem hi) (List.getElem?_eq_getElem hj)
 rintro ⟨h1,h2,h3,h4⟩;refine ⟨h1,h2,λi f hf=>h3 f (List.mem_of_getElem? hf),λi j f g hij hi hj=>?_⟩;obtain ⟨hi1,rfl⟩:=List.getElem?_eq_some_iff.1 hi;obtain ⟨hj1,rfl⟩:=List.getElem?_eq_some_iff.1 hj
 rcases Nat.lt_or_gt_of_ne hij with h | h
 ·exact List.pairwise_iff_getElem.1 h4 i j hi1 hj1 h
 exact (List.pairwise_iff_getElem.1 h4 j i hj1 hi1 h).symm
theorem St.perm {gs:List Fact} (S:St B w0 w fs) (h:fs.Perm gs):St B w0 w gs:=by
 obtain ⟨h1,h2,h3,h4⟩:=St.iff.1 S;exact St.iff.2 ⟨h1,h2,λf hf=>h3 f (h.mem_iff.2 hf),(h.pairwise_iff λh=>h.symm).1 h4⟩
theorem St.sub {gs:List Fact} (S:St B w0 w fs) (h:gs.Sublist fs):St B w0 w gs:=by
 obtain ⟨h1,h2,h3,h4⟩:=St.iff.1 S;exact St.iff.2 ⟨h1,h2,λf hf=>h3 f (h.mem hf),h4.sublist h⟩
theorem St.aaC {e:TypeId} {s n c:Nat} {A:Option Addr} {xs:List Value} (i:Nat) (S:St B w0 w fs) (hi:fs[i]? =some (.off e s A n c xs)):nE w B e s A n c xs:=S.all i _ hi
theorem St.arY {e:TypeId} {s n c:Nat} {A:Option Addr} {xs:List Value} (i:Nat) (S:St B w0 w fs) (hi:fs[i]? =some (.off e s A n c xs)):Rd w w.heap.size s A n xs:=Rd.abf (S.aaC i hi)
theorem St.ama {e:TypeId} {s n c:Nat} {A:Option Addr} {xs:List Value} (i k:Nat) (S:St B w0 w fs) (hi:fs[i]? =some (.off e s A n c xs)) (hk:k<=n):
  St B w0 w (fs.set i (.off e s (if c=k then A else A.map (·.add (k*s))) (n-k) (c-k) (xs.drop (k*s)))):=by
 refine S.turn i hi S.low (Nat.le_refl _) (λ_ _ _=>rfl) ((S.aaC i hi).cut hk) λk' hk'=> .inl ?_
 cases A with
 | none=>split at hk'<;>cases hk'
 | some a=>
  show some a.block=some k'
  split at hk'
  ·exact hk'
  have:(a.add (k*s)).block=a.block:=by unfold Addr.add;split<;>rfl
  rw [<-this];exact hk'
theorem St.amb {e:TypeId} {s n c n' c':Nat} {A A':Option Addr} {xs xs':List Value} (i:Nat) (S:St B w0 w fs) (hi:fs[i]? =some (.off e s A n c xs)) (hg:w.grownBy w' (A.map (·.block))) (ho:nE w' B e s A' n' c' xs')
  (hat:A'.map (·.block)=A.map (·.block)\/A'.map (·.block)=some w.heap.size):St B w0 w' (fs.set i (.off e s A' n' c' xs')):=by
 have h:=S.all i _ hi;refine S.turn i hi (S.low.grown hg S.base (λk hk=>(Fact.l6 h hk).1)) hg.size (λk hk hne=>hg.block k hk (λe=>hne e.symm)) ho (λk hk=>?_);have hk':A'.map (·.block)=some k:=hk
 rcases hat with h1 | h1
 ·exact .inl (by rw [<-hk',h1];rfl)
 rw [hk'] at h1
 cases h1;exact .inr (Nat.le_refl _)
theorem St.AL (S:St B w0 w fs) (e:TypeId) (s:Nat):St B w0 w (.off e s none 0 0 []::fs):=S.cons (nE.vS w B e s) λk hk=>by cases hk
end
section
variable {P:Program} {N:Nat} {l:Slots} {w w' w0:World} {B m n i:Nat} {fs fs':List Fact} {ops:Array Oper} {o:Oper} {rest:List Oper} {Q:Exit->Act->World->Prop} {C:World->Prop} {listed listed':Array Bool} {v:Value} {d:Nat}
theorem XK {x y:Operand} {t e:TypeId} {z:Value} {size bytes k q c c0 Br:Nat} {A0 A:Option Addr} {xs news xs':List Value} (hi':ops[i]? =some o) (hl:listed.setIfInBounds i true=listed') (j:Nat) (S:St B w0 w fs) (hw:Wanted N ops l o true) (hd:o.dst=some d) (hN:Nat.blt d N=true)
  (ho:o.op= .call { callee:= .builtin .append,args:= #[x,y],argTypes:= #[t,t] }) (hx:ev l x=some (.slice A0 k c0)) (hy:ev l y=some (.slice A q c)) (hi:fs[j]? =some (.off e size A0 k c0 xs)) (hr:Rd w Br size A q news) (hq:0<q)
  (ht:P.underlying t=some (.slice e)) (XE:(P.info? e).map (λi=>(i.zero,i.size,i.bytes))=some (some z,size,bytes)) (hzs:z.cells.size=size) (hsz:0<size) (h1: ∀ u∈news,u.oneCell'=true) (h63:k+q<=maxLen) (hbytes:(k+q)*bytes<=140737488355328)
  (hxs:xs++news=xs') (h: ∀ A' c' w',St B w0 w' (fs.set j (.off e size A' (k+q) c' xs'))->C w'/\wG P N ops Q C n m listed' ((d,.slice A' (k+q) c')::l) w'):wH P N ops Q C n m i listed l w:=by
 subst hxs;obtain ⟨j0,hj0,hz,hs,hb⟩:=info_parts XE;obtain ⟨bb,oo,rfl,_,hc⟩:=hr.2 hq;obtain ⟨A',c',w',hrun,h2,h3,h4⟩:=JV (P:=P) w B t o.type e j0 z size bytes ht hj0 hz hs hb hzs hsz A0 k c0 xs (S.aaC j hi) ⟨bb,oo,none⟩ q c news hr.1 (λa u hu=>by rw [Go.WideShapes.add_plain];exact hc a u hu) h1 h63 hbytes S.base hq;exact aau hi' hl hw hd hN (Ew (xs:=[x,y]) (vs:=[.slice A0 k c0,.slice (some ⟨bb,oo,none⟩) q c]) ho ⟨hx,hy,trivial⟩ (λcs=>by simp [builtin,hrun,Sem.run_bind,Result.andThen])) (h A' c' w' (S.amb j hi h3 h2 h4))
end
end
section
open ChangeShapes WideShapes RowKit
inductive lD (b:Nat):List Fact->Array Value->TypeId->Prop
 | z {row:Array Value} {t:TypeId} {fs:List Fact}:lD b (.blk b row t::fs) row t
 | s {row:Array Value} {t:TypeId} {f:Fact} {fs:List Fact}:lD b fs row t->lD b (f::fs) row t
theorem lD.at_ {b:Nat} {fs:List Fact} {row:Array Value} {t:TypeId} (h:lD b fs row t): ∃ i:Nat,fs[i]? =some (Fact.blk b row t):=by
 induction h with
 | z=>exact ⟨0,rfl⟩
 | s _ ih=>obtain ⟨i,hi⟩:=ih;exact ⟨i+1,by simpa using hi⟩
inductive Bb:List Fact->List Fact->Prop
 | r {fs:List Fact}:Bb fs fs
 | k {f:Fact} {fs gs:List Fact}:Bb fs gs->Bb (f::fs) (f::gs)
 | d {f:Fact} {fs gs:List Fact}:Bb fs gs->Bb fs (f::gs)
 | a {fs gs:List Fact}:Bb fs (fs++gs)
theorem Bb.sub {fs gs:List Fact} (h:Bb fs gs):fs.Sublist gs:=by
 induction h with
 | r=>exact List.Sublist.refl _
 | k _ ih=>exact ih.cons_cons _
 | d _ ih=>exact ih.cons _
 | a=>exact List.sublist_append_left _ _
theorem RV {t:TypeId} {ds:TypeDesc} (h:Tryz.prog.underlying t=some ds:=by with_reducible first | exact Tryz.underlying3 | exact Tryz.underlying73 | exact Tryz.underlying71 | exact Tryz.underlying69 | exact Tryz.underlying74 | exact Tryz.underlying113 | exact Tryz.underlying58 | exact Tryz.underlying171 | exact Tryz.underlying55 | exact Tryz.underlying141 | exact Tryz.underlying105 | exact Tryz.underlying213 | exact Tryz.underlying116 | exact Tryz.underlying51 | exact Tryz.underlying106 | exact Tryz.underlying39 | exact Tryz.underlying23 | exact Tryz.underlying40 | exact Tryz.underlying46 | exact Tryz.underlying118 | exact Tryz.underlying4 | exact Tryz.underlying31 | exact Tryz.underlying114 | exact Tryz.underlying146 | exact Tryz.underlying102 | exact Tryz.underlying30 | exact Tryz.underlying174 | exact Tryz.underlying153 | exact Tryz.underlying35 | exact Tryz.underlying95 | exact Tryz.underlying28 | exact Tryz.underlying27 | exact Tryz.underlying62 | exact Tryz.underlying81 | exact Tryz.underlying32 | exact Tryz.underlying33 | exact Tryz.underlying206 | exact Tryz.underlying135 | exact Tryz.underlying212 | exact Tryz.underlying64 | exact Tryz.underlying117 | exact Tryz.underlying227 | exact Tryz.underlying5 | exact Tryz.underlying110 | exact Tryz.underlying109 | exact Tryz.underlying44 | exact Tryz.underlying43 | exact Tryz.underlying139 | exact Tryz.underlying53 | exact Tryz.underlying124 | exact Tryz.underlying22 | exact Tryz.underlying84 | exact Tryz.underlying108 | exact Tryz.underlying101 | exact Tryz.underlying120 | exact Tryz.underlying25):Tryz.prog.underlying t=some ds:=h
theorem iiQ {t:TypeId} {m:Nat} (h:(Tryz.prog.info? t).map (·.size)=some m:=by with_reducible first | exact aC | exact al6 | exact jH | exact mU | exact bQ | exact arp | exact aCp | exact iy | exact jW | exact jO | exact eZ | exact NP | exact rV | exact iY | exact al7 | exact aru | exact arq | exact al9 | exact vX | exact oC | exact AZ | exact Gq | exact vG | exact al8 | exact SC | exact pG | exact ars | exact aa6 | exact F7 | exact Dz | exact arn | exact DI | exact yu | exact ark | exact aCq | exact AB | exact DJ | exact Kj | exact SE | exact SF | exact NM | exact ah1 | exact Lp | exact aro | exact RU | exact aa8 | exact aav | exact aa9 | exact aa7 | exact ah2 | exact abb | exact abd | exact ah3):(Tryz.prog.info? t).map (·.size)=some m:=h
section
variable {P:Program} {N:Nat} {l l':Slots} {w w' w0:World} {ops:Array Oper} {o:Oper} {rest:List Oper} {Q:Exit->Act->World->Prop} {d B:Nat} {v p:Value} {fs fs':List Fact} {ex:Exit}
section
variable {x y:Operand} {t tt s:TypeId} {ds:TypeDesc} {b k f o0 n c m:Nat} {g:Nat->Nat} {row:Array Value} {A:Option Addr} {e:TypeId}
theorem zfa (ho:o.op= .fieldAddr s x f/\ev l x=some (.pointer (some ⟨b,o0,none⟩)):=by exact ⟨rfl,rfl⟩) (hf: ∀ (b o:Nat) (w:World),(Instr.fieldAt s (.pointer (some ⟨b,o,none⟩)) f).run P w= .ok (.pointer (some ⟨b,g o,none⟩)) w:=by with_reducible first | exact afJ | exact aa3 | exact aa2 | exact af9 | exact alA | exact alR | exact af4 | exact afZ | exact alW | exact afK | exact alS | exact afY | exact afQ | exact alM | exact afW | exact agi | exact afX | exact afM | exact alH | exact agq | exact alT | exact afN | exact alI | exact af6 | exact alC | exact afR | exact Az | exact alU | exact alD | exact afL | exact afS | exact agf | exact agt | exact aly | exact alQ | exact aln | exact agj | exact alk | exact alm | exact alY | exact afU | exact alB | exact af3 | exact ags | exact alE | exact alG | exact af0 | exact alF | exact agh | exact alN | exact al2 | exact alL | exact af7 | exact agl | exact al4 | exact agk | exact alV | exact alO | exact alP | exact alK | exact af8 | exact zl | exact zm | exact zk | exact agc | exact af2 | exact agm | exact aa1 | exact alo | exact al5 | exact agu | exact af5 | exact agp | exact acr | exact al3 | exact afT | exact kK | exact RQ | exact alJ | exact aga | exact Gs | exact agr | exact alp | exact als | exact M4 | exact M5 | exact agn | exact VY | exact alZ | exact AA | exact agb | exact alq | exact alr | exact afO | exact afP | exact acs | exact VZ | exact VX | exact VW | exact afV | exact alu | exact alx | exact alv):fV P N l o w (.pointer (some ⟨b,g o0,none⟩)):=FC ho.1 ho.2 (hf b o0 w)
theorem zld (ho:o.op= .load t x/\ev l x=some (.pointer (some ⟨b,k,none⟩)):=by exact ⟨rfl,rfl⟩) (hu:P.underlying t=some ds:=by exact RV) (hd:ds.isRow=false:=by exact rfl) (S:St B w0 w fs:=by assumption) (hf:lD b fs row tt:=by repeat' first | exact lD.z | apply lD.s) (hk:row[k]? =some v:=by exact rfl):fV P N l o w v:=by
 obtain ⟨i,hi⟩:=hf.at_;exact ah ho.1 ho.2 (av hu hd (St.cl i S hi hk))
theorem zlr (ho:o.op= .load t x/\ev l x=some (.pointer (some ⟨b,0,none⟩)):=by exact ⟨rfl,rfl⟩) (hu:P.underlying t=some ds:=by exact RV) (hd:ds.isRow=true:=by exact rfl) (S:St B w0 w fs:=by assumption) (hf:lD b fs row tt:=by repeat' first | exact lD.z | apply lD.s) (hz:(P.info? t).map (·.size)=some m:=by exact iiQ) (hm:row.size=m:=by exact rfl):fV P N l o w (.agg row):=by
 obtain ⟨i,hi⟩:=hf.at_;exact ah ho.1 ho.2 (nW i S hi hu hd hz hm)
theorem zln (ho:o.op= .call { callee:= .builtin .len,args:= #[x],argTypes:= #[t] }/\ev l x=some (.slice A n c):=by exact ⟨rfl,rfl⟩) (hu:P.underlying t=some (.slice e):=by exact RV):fV P N l o w (.int .i64 ((n:Nat):Int)):=jQ (xs:=[x]) (vs:=[_]) ho.1 ⟨ho.2,trivial⟩ λ_=>F6 rfl hu
theorem znl (ho:o.op= .nilCheck x:=by exact rfl) (hx:ev l x=some p:=by exact rfl) (hp:match p with | .pointer (some _)=>True | .func (.func _) _ _=>True | .func (.via ..) _ _=>True | _=>False:=by exact trivial):fV P N l o w p:=arb ho hx hp
section
variable {kd:IntKind} {xo yo:Operand} {x y:Int}
theorem arZ (ho:o.op= .binOp .lss t xo yo tt/\ev l xo=some (.int kd x)/\ev l yo=some (.int kd y):=by exact ⟨rfl,rfl,rfl⟩) (h:x<y:=by first | assumption | decide):fV P N l o w (.bool true):=aF ho.1 ho.2.1 ho.2.2 (Gi h)
theorem ar0 (ho:o.op= .binOp .lss t xo yo tt/\ev l xo=some (.int kd x)/\ev l yo=some (.int kd y):=by exact ⟨rfl,rfl,rfl⟩) (h: ¬ x<y:=by first | assumption | decide):fV P N l o w (.bool false):=aF ho.1 ho.2.1 ho.2.2 (Gj h)
theorem ar1 (ho:o.op= .binOp .leq t xo yo tt/\ev l xo=some (.int kd x)/\ev l yo=some (.int kd y):=by exact ⟨rfl,rfl,rfl⟩) (h:x<=y:=by first | assumption | decide):fV P N l o w (.bool true):=aF ho.1 ho.2.1 ho.2.2 (VO h)
theorem ar2 (ho:o.op= .binOp .leq t xo yo tt/\ev l xo=some (.int kd x)/\ev l yo=some (.int kd y):=by exact ⟨rfl,rfl,rfl⟩) (h: ¬ x<=y:=by first | assumption | decide):fV P N l o w (.bool false):=aF ho.1 ho.2.1 ho.2.2 (VP h)
theorem ar3 (ho:o.op= .binOp .gtr t xo yo tt/\ev l xo=some (.int kd x)/\ev l yo=some (.int kd y):=by exact ⟨rfl,rfl,rfl⟩) (h:y<x:=by first | assumption | decide):fV P N l o w (.bool true):=aF ho.1 ho.2.1 ho.2.2 (VQ h)
theorem ar4 (ho:o.op= .binOp .gtr t xo yo tt/\ev l xo=some (.int kd x)/\ev l yo=some (.int kd y):=by exact ⟨rfl,rfl,rfl⟩) (h: ¬ y<x:=by first | assumption | decide):fV P N l o w (.bool false):=aF ho.1 ho.2.1 ho.2.2 (VR h)
theorem ar5 (ho:o.op= .binOp .geq t xo yo tt/\ev l xo=some (.int kd x)/\ev l yo=some (.int kd y):=by exact ⟨rfl,rfl,rfl⟩) (h:y<=x:=by first | assumption | decide):fV P N l o w (.bool true):=aF ho.1 ho.2.1 ho.2.2 (MV h)
theorem ar6 (ho:o.op= .binOp .geq t xo yo tt/\ev l xo=some (.int kd x)/\ev l yo=some (.int kd y):=by exact ⟨rfl,rfl,rfl⟩) (h: ¬ y<=x:=by first | assumption | decide):fV P N l o w (.bool false):=aF ho.1 ho.2.1 ho.2.2 (Gl h)
theorem ar7 (ho:o.op= .binOp .eql t xo yo tt/\ev l xo=some (.int kd x)/\ev l yo=some (.int kd y):=by exact ⟨rfl,rfl,rfl⟩) (h:x=y:=by first | assumption | decide):fV P N l o w (.bool true):=aF ho.1 ho.2.1 ho.2.2 (MW h)
theorem ar8 (ho:o.op= .binOp .eql t xo yo tt/\ev l xo=some (.int kd x)/\ev l yo=some (.int kd y):=by exact ⟨rfl,rfl,rfl⟩) (h: ¬ x=y:=by first | assumption | decide):fV P N l o w (.bool false):=aF ho.1 ho.2.1 ho.2.2 (Gm h)
theorem ar9 (ho:o.op= .binOp .neq t xo yo tt/\ev l xo=some (.int kd x)/\ev l yo=some (.int kd y):=by exact ⟨rfl,rfl,rfl⟩) (h: ¬ x=y:=by first | assumption | decide):fV P N l o w (.bool true):=aF ho.1 ho.2.1 ho.2.2 (Gn h)
theorem asa (ho:o.op= .binOp .neq t xo yo tt/\ev l xo=some (.int kd x)/\ev l yo=some (.int kd y):=by exact ⟨rfl,rfl,rfl⟩) (h:x=y:=by first | assumption | decide):fV P N l o w (.bool false):=aF ho.1 ho.2.1 ho.2.2 (Ce h)
theorem amc (ho:o.op= .binOp .lss t xo yo tt/\ev l xo=some (.int kd x)/\ev l yo=some (.int kd y):=by exact ⟨rfl,rfl,rfl⟩) (h:x<y:=by omega):fV P N l o w (.bool true):=aF ho.1 ho.2.1 ho.2.2 (Gi h)
theorem amd (ho:o.op= .binOp .lss t xo yo tt/\ev l xo=some (.int kd x)/\ev l yo=some (.int kd y):=by exact ⟨rfl,rfl,rfl⟩) (h: ¬ x<y:=by omega):fV P N l o w (.bool false):=aF ho.1 ho.2.1 ho.2.2 (Gj h)
theorem ame (ho:o.op= .binOp .leq t xo yo tt/\ev l xo=some (.int kd x)/\ev l yo=some (.int kd y):=by exact ⟨rfl,rfl,rfl⟩) (h:x<=y:=by omega):fV P N l o w (.bool true):=aF ho.1 ho.2.1 ho.2.2 (VO h)
theorem amf (ho:o.op= .binOp .leq t xo yo tt/\ev l xo=some (.int kd x)/\ev l yo=some (.int kd y):=by exact ⟨rfl,rfl,rfl⟩) (h: ¬ x<=y:=by omega):fV P N l o w (.bool false):=aF ho.1 ho.2.1 ho.2.2 (VP h)
theorem amg (ho:o.op= .binOp .gtr t xo yo tt/\ev l xo=some (.int kd x)/\ev l yo=some (.int kd y):=by exact ⟨rfl,rfl,rfl⟩) (h:y<x:=by omega):fV P N l o w (.bool true):=aF ho.1 ho.2.1 ho.2.2 (VQ h)
theorem amh (ho:o.op= .binOp .gtr t xo yo tt/\ev l xo=some (.int kd x)/\ev l yo=some (.int kd y):=by exact ⟨rfl,rfl,rfl⟩) (h: ¬ y<x:=by omega):fV P N l o w (.bool false):=aF ho.1 ho.2.1 ho.2.2 (VR h)
theorem ami (ho:o.op= .binOp .geq t xo yo tt/\ev l xo=some (.int kd x)/\ev l yo=some (.int kd y):=by exact ⟨rfl,rfl,rfl⟩) (h:y<=x:=by omega):fV P N l o w (.bool true):=aF ho.1 ho.2.1 ho.2.2 (MV h)
theorem amj (ho:o.op= .binOp .geq t xo yo tt/\ev l xo=some (.int kd x)/\ev l yo=some (.int kd y):=by exact ⟨rfl,rfl,rfl⟩) (h: ¬ y<=x:=by omega):fV P N l o w (.bool false):=aF ho.1 ho.2.1 ho.2.2 (Gl h)
theorem amk (ho:o.op= .binOp .eql t xo yo tt/\ev l xo=some (.int kd x)/\ev l yo=some (.int kd y):=by exact ⟨rfl,rfl,rfl⟩) (h:x=y:=by omega):fV P N l o w (.bool true):=aF ho.1 ho.2.1 ho.2.2 (MW h)
theorem aml (ho:o.op= .binOp .eql t xo yo tt/\ev l xo=some (.int kd x)/\ev l yo=some (.int kd y):=by exact ⟨rfl,rfl,rfl⟩) (h: ¬ x=y:=by omega):fV P N l o w (.bool false):=aF ho.1 ho.2.1 ho.2.2 (Gm h)
theorem amm (ho:o.op= .binOp .neq t xo yo tt/\ev l xo=some (.int kd x)/\ev l yo=some (.int kd y):=by exact ⟨rfl,rfl,rfl⟩) (h: ¬ x=y:=by omega):fV P N l o w (.bool true):=aF ho.1 ho.2.1 ho.2.2 (Gn h)
theorem amn (ho:o.op= .binOp .neq t xo yo tt/\ev l xo=some (.int kd x)/\ev l yo=some (.int kd y):=by exact ⟨rfl,rfl,rfl⟩) (h:x=y:=by omega):fV P N l o w (.bool false):=aF ho.1 ho.2.1 ho.2.2 (Ce h)
end
theorem aob {P:Program} {w:World} {t:TypeId} {xo yo:Operand} {a b:ByteArray} {q:Bool} (h:(a.toList==b.toList)=q):(do eqGuard .eql t xo yo (.string a) (.string b);binOp .eql t (.string a) (.string b):Sem Value).run P w= .ok (.bool q) w:=by
 subst h;simp [binOp,eqGuard_at_string,go_sem,Op.stringOp]
theorem av3 {xo yo:Operand} {a b:ByteArray} (ho:o.op= .binOp .eql t xo yo tt/\ev l xo=some (.string a)/\ev l yo=some (.string b):=by exact ⟨rfl,rfl,rfl⟩) (h:(a.toList==b.toList)=true:=by decide+kernel):fV P N l o w (.bool true):=aF ho.1 ho.2.1 ho.2.2 (aob h)
theorem av4 {xo yo:Operand} {a b:ByteArray} (ho:o.op= .binOp .eql t xo yo tt/\ev l xo=some (.string a)/\ev l yo=some (.string b):=by exact ⟨rfl,rfl,rfl⟩) (h:(a.toList==b.toList)=false:=by decide+kernel):fV P N l o w (.bool false):=aF ho.1 ho.2.1 ho.2.2 (aob h)
end
end
theorem av5: ∀ w,(Instr.build 27 ([]:List (Nat×Value)).toArray).run Tryz.prog w= .ok (.agg #[.int .i64 0,.int .i64 0]) w:=λw=>by kernel_rfl
theorem av6: ∀ w,(Instr.build 30 ([]:List (Nat×Value)).toArray).run Tryz.prog w= .ok (.agg #[.int .i64 0,.int .i64 0,.int .i64 0,.int .i64 0,.int .i64 0,.int .i64 0,.int .i64 0,.int .i64 0]) w:=λw=>by kernel_rfl
theorem av7: ∀ w,(Instr.build 35 ([]:List (Nat×Value)).toArray).run Tryz.prog w= .ok (.agg #[.int .i64 0,.bool false,.bool false,.bool false,.bool false,.bool false,.int .i64 0,.int .i64 0,.int .i64 0,.int .i64 0,.int .i64 0,.int .i64 0,.int .i64 0,.int .i64 0,.slice none 0 0,.slice none 0 0,.slice none 0 0,.int .i64 0]) w:=λw=>by kernel_rfl
theorem av8: ∀ w,(Instr.build 73 ([]:List (Nat×Value)).toArray).run Tryz.prog w= .ok (.agg #[.int .i64 0,.int .i64 0,.int .i64 0,.int .i64 0,.int .i64 0,.slice none 0 0]) w:=λw=>by kernel_rfl
theorem av9: ∀ w,(Instr.build 43 ([]:List (Nat×Value)).toArray).run Tryz.prog w= .ok (.agg #[.int .i64 0,.bool false,.bool false,.bool false,.bool false,.bool false,.bool false,.bool false,.bool false]) w:=λw=>by kernel_rfl
theorem awc: ∀ w,(Instr.build 55 ([]:List (Nat×Value)).toArray).run Tryz.prog w= .ok (.agg #[.int .i64 0,.int .i64 0,.int .i64 0,.int .i64 0,.int .i64 0,.int .i64 0]) w:=λw=>by kernel_rfl
theorem awd: ∀ w,(Instr.build 69 ([]:List (Nat×Value)).toArray).run Tryz.prog w= .ok (.agg #[.int .i64 0,.int .i64 0,.int .i64 0,.int .i64 0,.int .i64 0,.int .i64 0,.int .i64 0,.int .i64 0,.int .i64 0,.int .i64 0,.int .i64 0]) w:=λw=>by kernel_rfl
theorem awe: ∀ w,(Instr.build 58 ([]:List (Nat×Value)).toArray).run Tryz.prog w= .ok (.agg #[.int .i64 0,.int .i64 0,.int .i64 0,.int .i64 0]) w:=λw=>by kernel_rfl
theorem awf: ∀ w,(Instr.build 81 ([]:List (Nat×Value)).toArray).run Tryz.prog w= .ok (.agg #[.int .i64 0,.int .i64 0,.int .i64 0,.int .i64 0,.int .i64 0,.int .i64 0,.int .i64 0]) w:=λw=>by kernel_rfl
theorem awg: ∀ w,(Instr.build 62 ([]:List (Nat×Value)).toArray).run Tryz.prog w= .ok (.agg #[.int .i64 0,.int .i64 0]) w:=λw=>by kernel_rfl
theorem awh: ∀ w,(Instr.build 64 ([]:List (Nat×Value)).toArray).run Tryz.prog w= .ok (.agg #[.int .i64 0,.int .i64 0,.int .i64 0,.int .i64 0]) w:=λw=>by kernel_rfl
theorem asb: ∀ w,(Instr.build 108 ([]:List (Nat×Value)).toArray).run Tryz.prog w= .ok (.agg #[.int .i64 0,.int .i64 0]) w:=λw=>by kernel_rfl
theorem asc: ∀ w,(Instr.build 116 ([]:List (Nat×Value)).toArray).run Tryz.prog w= .ok (.agg #[.slice none 0 0,.int .i64 0]) w:=λw=>by kernel_rfl
theorem ase: ∀ w,(Instr.build 120 ([]:List (Nat×Value)).toArray).run Tryz.prog w= .ok (.agg #[.int .i64 0,.bool false,.slice none 0 0,.int .i64 0,.slice none 0 0,.int .i64 0,.int .i64 0,.int .i64 0,.int .i64 0,.int .i64 0,.int .i64 0,.int .i64 0,.int .i64 0,.bool false,.bool false,.bool false,.bool false,.slice none 0 0,.nilFunc,.int .i64 0]) w:=λw=>by kernel_rfl
theorem asf: ∀ w,(Instr.build 141 ([]:List (Nat×Value)).toArray).run Tryz.prog w= .ok (.agg #[.pointer none,.int .i64 0]) w:=λw=>by kernel_rfl
theorem asg: ∀ w,(Instr.build 146 ([]:List (Nat×Value)).toArray).run Tryz.prog w= .ok (.agg #[.int .i64 0,.int .i64 0,.int .i64 0,.int .i64 0,.int .i64 0,.int .i64 0,.int .i64 0,.int .i64 0,.int .i64 0,.int .i64 0,.int .i64 0,.int .i64 0,.int .i64 0,.slice none 0 0,.bool false,.int .i64 0,.int .i64 0,.int .i64 0,.int .i64 0,.int .i64 0,.int .i64 0,.int .i64 0,.int .i64 0]) w:=λw=>by kernel_rfl
theorem ash: ∀ w,(Instr.build 171 ([]:List (Nat×Value)).toArray).run Tryz.prog w= .ok (.agg #[.int .i64 0,.int .i64 0,.int .i64 0,.int .i64 0,.int .i64 0,.int .i64 0,.int .i64 0,.int .i64 0,.int .i64 0,.int .i64 0]) w:=λw=>by kernel_rfl
section
variable {P:Program} {N:Nat} {l l':Slots} {w w' w0:World} {ops:Array Oper} {o:Oper} {rest:List Oper} {Q:Exit->Act->World->Prop} {d B:Nat} {v p:Value} {fs fs':List Fact} {ex:Exit}
section
variable {x y:Operand} {t tt s:TypeId} {ds:TypeDesc} {b k f o0 n c m:Nat} {g:Nat->Nat} {row:Array Value} {A:Option Addr} {e:TypeId}
theorem ybz {row:Array Value} (ho:o.op= .build t ([]:List (Nat×Operand)).toArray:=by exact rfl) (hr: ∀ w,(Instr.build t ([]:List (Nat×Value)).toArray).run P w= .ok (.agg row) w:=by with_reducible first | exact av5 | exact av6 | exact av7 | exact av8 | exact av9 | exact awc | exact awd | exact awe | exact awf | exact awg | exact awh | exact asb | exact asc | exact ase | exact asf | exact asg | exact ash):fV P N l o w (.agg row):=Cc (vs:=[]) ho trivial (hr w)
theorem y0Q (hy:fV P N l o w v:=by first | exact ym | exact ya | exact yx | exact yno | exact znl | exact zfa | exact zld | exact zlr | exact zln | exact DL | exact qG | exact ybz | exact av3 | exact av4 | exact arZ | exact ar0 | exact ar1 | exact ar2 | exact ar3 | exact ar4 | exact ar5 | exact ar6 | exact ar7 | exact ar8 | exact ar9 | exact asa | exact amc | exact amd | exact ame | exact amf | exact amg | exact amh | exact ami | exact amj | exact amk | exact aml | exact amm | exact amn):fV P N l o w v:=hy
end
inductive lT:Nat->List Bool->Nat->List Bool->Prop
 | z {l:List Bool}:lT 0 (false::l) 0 (true::l)
 | t {k i:Nat} {l l':List Bool}:lT k l i l'->lT k (true::l) (i+1) (true::l')
 | f {k i:Nat} {l l':List Bool}:lT k l i l'->lT (k+1) (false::l) (i+1) (false::l')
theorem lT.eq {k i:Nat} {l l':List Bool} (h:lT k l i l'):l.toArray.setIfInBounds i true=l'.toArray:=by
 suffices h2:l.set i true=l' by simp [h2]
 induction h with
 | z=>rfl
 | t _ ih=>rw [List.set_cons_succ,ih]
 | f _ ih=>rw [List.set_cons_succ,ih]
inductive qc:List Bool->Nat->List Bool->Prop
 | z {b:Bool} {l:List Bool}:qc (b::l) 0 (true::l)
 | s {b:Bool} {i:Nat} {l l':List Bool}:qc l i l'->qc (b::l) (i+1) (b::l')
theorem qc.eq {i:Nat} {l l':List Bool} (h:qc l i l'):l.toArray.setIfInBounds i true=l'.toArray:=by
 suffices h2:l.set i true=l' by simp [h2]
 induction h with
 | z=>rfl
 | s _ ih=>rw [List.set_cons_succ,ih]
def Step (A B:Prop):Prop:=B->A
section
variable {C:World->Prop} {Qa:Act->Prop} {j:Nat} {t:Nat} {u:Value} {b:Bool}
theorem q1Q (hw:o.guard=none/\o.dst=some d/\Nat.blt d N=true:=by exact ⟨rfl,rfl,rfl⟩) (hy:fV P N l o w v:=by exact y0Q):Step (wL P N ops Q (o::rest) l w) (wL P N ops Q rest ((d,v)::l) w):=λh=>Dx (wn hw.1) hw.2.1 hw.2.2 hy h
theorem q2Q (hg:o.guard=some (j,b)/\(ops[j]?).bind (·.dst)=some t:=by exact ⟨rfl,rfl⟩) (hv:lk l t=some u:=by exact rfl) (hr:(yl u==some b)=true/\o.dst=some d/\Nat.blt d N=true:=by exact ⟨rfl,rfl,rfl⟩) (hy:fV P N l o w v:=by exact y0Q):Step (wL P N ops Q (o::rest) l w) (wL P N ops Q rest ((d,v)::l) w):=λh=>Dx (wg hg.1 hg.2 hv hr.1) hr.2.1 hr.2.2 hy h
theorem q3Q (hw:o.guard=none/\o.dst=some d/\Nat.blt d N=true:=by exact ⟨rfl,rfl,rfl⟩) (hy: ∀ w,C w->fV P N l o w v:=by (intro w S;exact y0Q)):Step (wU P N ops C Qa (o::rest) l) (wU P N ops C Qa rest ((d,v)::l)):=λh=>Ll (wn hw.1) hw.2.1 hw.2.2 hy h
theorem q4Q (hg:o.guard=some (j,b)/\(ops[j]?).bind (·.dst)=some t:=by exact ⟨rfl,rfl⟩) (hv:lk l t=some u:=by exact rfl) (hr:(yl u==some b)=true/\o.dst=some d/\Nat.blt d N=true:=by exact ⟨rfl,rfl,rfl⟩) (hy: ∀ w,C w->fV P N l o w v:=by (intro w S;exact y0Q)):Step (wU P N ops C Qa (o::rest) l) (wU P N ops C Qa rest ((d,v)::l)):=λh=>Ll (wg hg.1 hg.2 hv hr.1) hr.2.1 hr.2.2 hy h
theorem St.fit {gs:List Fact} (S:St B w0 w gs) (h:Bb fs gs:=by repeat' first | exact Bb.r | exact Bb.a | apply Bb.k | apply Bb.d):St B w0 w fs:=S.sub h.sub
section
variable {n m i:Nat} {listed listed':Array Bool}
theorem V5 {ls ls':List Bool} (q:Nat) (hl:lT q ls i ls':=by repeat' first | exact lT.z | apply lT.t | apply lT.f) (hi:ops[i]? =some o:=by exact rfl) (hw:o.guard=none/\o.dst=some d/\Nat.blt d N=true:=by exact ⟨rfl,rfl,rfl⟩) (hy: ∀ w,C w->fV P N l o w v:=by (intro w S;exact y0Q)) (hS:C w:=by first | assumption | exact St.fit (by assumption)) (hs:Region.noSelect ops=true:=by kernel_rfl) (hf:Region.free .any ops ls.toArray i=true:=by kernel_rfl) (hr:(Region.ready .any ops ls.toArray).contains i=true:=by kernel_rfl):Step (wA P N ops Q C (n+1) ls.toArray l w) (wA P N ops Q C n ls'.toArray ((d,v)::l) w):=λh=>Cg hi hs hf hr hS hl.eq (wn hw.1) hw.2.1 hw.2.2 hy h
theorem V6 {ls ls':List Bool} (q:Nat) (hl:lT q ls i ls':=by repeat' first | exact lT.z | apply lT.t | apply lT.f) (hi:ops[i]? =some o:=by exact rfl) (hw:o.guard=none/\o.dst=some d/\Nat.blt d N=true:=by exact ⟨rfl,rfl,rfl⟩) (hy: ∀ w,C w->fV P N l o w v:=by (intro w S;exact y0Q)) (hS:C w:=by first | assumption | exact St.fit (by assumption)) (hs:Region.noSelect ops=true:=by kernel_rfl) (hf:Region.free .any ops ls.toArray i=true:=by kernel_rfl) (hr:(Region.ready .any ops ls.toArray).contains i=true:=by kernel_rfl) (hnl:ls.toArray.getD n true=false:=by exact rfl) (hni:vV ops n i=true:=by kernel_rfl) (hne:Nat.beq n i=false:=by exact rfl):Step (wG P N ops Q C n (m+1) ls.toArray l w) (wG P N ops Q C n m ls'.toArray ((d,v)::l) w):=λh=>Ci hi hs hf hr hnl hni hne hS hl.eq (wn hw.1) hw.2.1 hw.2.2 hy h
theorem V7 {ls ls':List Bool} (q:Nat) (hl:lT q ls i ls':=by repeat' first | exact lT.z | apply lT.t | apply lT.f) (hi:ops[i]? =some o:=by exact rfl) (hg:o.guard=some (j,b)/\(ops[j]?).bind (·.dst)=some t:=by exact ⟨rfl,rfl⟩) (hv:lk l t=some u:=by exact rfl) (hr0:(yl u==some b)=true/\o.dst=some d/\Nat.blt d N=true:=by exact ⟨rfl,rfl,rfl⟩) (hy: ∀ w,C w->fV P N l o w v:=by (intro w S;exact y0Q)) (hS:C w:=by first | assumption | exact St.fit (by assumption)) (hs:Region.noSelect ops=true:=by kernel_rfl) (hf:Region.free .any ops ls.toArray i=true:=by kernel_rfl) (hr:(Region.ready .any ops ls.toArray).contains i=true:=by kernel_rfl):Step (wA P N ops Q C (n+1) ls.toArray l w) (wA P N ops Q C n ls'.toArray ((d,v)::l) w):=λh=>Cg hi hs hf hr hS hl.eq (wg hg.1 hg.2 hv hr0.1) hr0.2.1 hr0.2.2 hy h
theorem V8 {ls ls':List Bool} (q:Nat) (hl:lT q ls i ls':=by repeat' first | exact lT.z | apply lT.t | apply lT.f) (hi:ops[i]? =some o:=by exact rfl) (hg:o.guard=some (j,b)/\(ops[j]?).bind (·.dst)=some t:=by exact ⟨rfl,rfl⟩) (hv:lk l t=some u:=by exact rfl) (hr0:(yl u==some b)=false/\o.dst=some d/\Nat.blt d N=true:=by exact ⟨rfl,rfl,rfl⟩) (hS:C w:=by first | assumption | exact St.fit (by assumption)) (hs:Region.noSelect ops=true:=by kernel_rfl) (hf:Region.free .any ops ls.toArray i=true:=by kernel_rfl) (hr:(Region.ready .any ops ls.toArray).contains i=true:=by kernel_rfl):Step (wA P N ops Q C (n+1) ls.toArray l w) (wA P N ops Q C n ls'.toArray ((d,undef)::l) w):=λh=>zh hi hs hf hr hS hl.eq (wg hg.1 hg.2 hv hr0.1) hr0.2.1 hr0.2.2 h
theorem V9 {ls ls':List Bool} (q:Nat) (hl:lT q ls i ls':=by repeat' first | exact lT.z | apply lT.t | apply lT.f) (hi:ops[i]? =some o:=by exact rfl) (hg:o.guard=some (j,b)/\(ops[j]?).bind (·.dst)=some t:=by exact ⟨rfl,rfl⟩) (hv:lk l t=some u:=by exact rfl) (hr0:(yl u==some b)=true/\o.dst=some d/\Nat.blt d N=true:=by exact ⟨rfl,rfl,rfl⟩) (hy: ∀ w,C w->fV P N l o w v:=by (intro w S;exact y0Q)) (hS:C w:=by first | assumption | exact St.fit (by assumption)) (hs:Region.noSelect ops=true:=by kernel_rfl) (hf:Region.free .any ops ls.toArray i=true:=by kernel_rfl) (hr:(Region.ready .any ops ls.toArray).contains i=true:=by kernel_rfl) (hnl:ls.toArray.getD n true=false:=by exact rfl) (hni:vV ops n i=true:=by kernel_rfl) (hne:Nat.beq n i=false:=by exact rfl):Step (wG P N ops Q C n (m+1) ls.toArray l w) (wG P N ops Q C n m ls'.toArray ((d,v)::l) w):=λh=>Ci hi hs hf hr hnl hni hne hS hl.eq (wg hg.1 hg.2 hv hr0.1) hr0.2.1 hr0.2.2 hy h
theorem Gu {ls ls':List Bool} (q:Nat) (hl:lT q ls i ls':=by repeat' first | exact lT.z | apply lT.t | apply lT.f) (hi:ops[i]? =some o:=by exact rfl) (hg:o.guard=some (j,b)/\(ops[j]?).bind (·.dst)=some t:=by exact ⟨rfl,rfl⟩) (hv:lk l t=some u:=by exact rfl) (hr0:(yl u==some b)=false/\o.dst=some d/\Nat.blt d N=true:=by exact ⟨rfl,rfl,rfl⟩) (hS:C w:=by first | assumption | exact St.fit (by assumption)) (hs:Region.noSelect ops=true:=by kernel_rfl) (hf:Region.free .any ops ls.toArray i=true:=by kernel_rfl) (hr:(Region.ready .any ops ls.toArray).contains i=true:=by kernel_rfl) (hnl:ls.toArray.getD n true=false:=by exact rfl) (hni:vV ops n i=true:=by kernel_rfl) (hne:Nat.beq n i=false:=by exact rfl):Step (wG P N ops Q C n (m+1) ls.toArray l w) (wG P N ops Q C n m ls'.toArray ((d,undef)::l) w):=λh=>afH hi hs hf hr hnl hni hne hS hl.eq (wg hg.1 hg.2 hv hr0.1) hr0.2.1 hr0.2.2 h
end
end
section
variable {fn:Func} {R:Ending->World->Prop} {i j k:Nat} {v1 v2 v3:Value} {ty t tt:TypeId} {b m:Nat} {row:Array Value} {ds:TypeDesc}
theorem p0Q (hr:fn.results=([]:List ResultVar).toArray:=by exact rfl):Step (wQ N (bodyPost P fn R) .ret l w) (R (.returned (qx [])) w):=λhR=>dR (vs:=[]) hr trivial hR
theorem awi (hr:fn.results=([]:List ResultVar).toArray:=by exact rfl):Step (wQ N (bodyPost P fn R) .normal l w) (R (.returned (qx [])) w):=λhR=>aY (vs:=[]) hr trivial hR
theorem p1Q (hr:fn.results=[ResultVar.tmp i].toArray:=by exact rfl) (h1:lk l i=some v1:=by exact rfl):Step (wQ N (bodyPost P fn R) .ret l w) (R (.returned (qx [v1])) w):=λhR=>dR (vs:=[v1]) hr ⟨h1,trivial⟩ hR
theorem p2Q (hr:fn.results=[ResultVar.tmp i,ResultVar.tmp j].toArray:=by exact rfl) (h1:lk l i=some v1:=by exact rfl) (h2:lk l j=some v2:=by exact rfl):Step (wQ N (bodyPost P fn R) .ret l w) (R (.returned (qx [v1,v2])) w):=λhR=>dR (vs:=[v1,v2]) hr ⟨h1,h2,trivial⟩ hR
theorem p3Q (hr:fn.results=[ResultVar.tmp i,ResultVar.tmp j,ResultVar.tmp k].toArray:=by exact rfl) (h1:lk l i=some v1:=by exact rfl) (h2:lk l j=some v2/\lk l k=some v3:=by exact ⟨rfl,rfl⟩):Step (wQ N (bodyPost P fn R) .ret l w) (R (.returned (qx [v1,v2,v3])) w):=λhR=>dR (vs:=[v1,v2,v3]) hr ⟨h1,h2.1,h2.2,trivial⟩ hR
theorem awj (hr:fn.results=[ResultVar.cell i ty].toArray/\lk l i=some (.pointer (some ⟨b,0,none⟩)):=by exact ⟨rfl,rfl⟩) (S:St B w0 w fs:=by assumption) (hf:lD b fs row tt:=by repeat' first | exact lD.z | apply lD.s) (hu:P.underlying ty=some ds:=by exact RV) (hd:ds.isRow=true:=by exact rfl) (hz:(P.info? ty).map (·.size)=some m:=by exact iiQ) (hm:row.size=m:=by exact rfl):Step (wQ N (bodyPost P fn R) .ret l w) (R (.returned (qx [.agg row])) w):=λhR=>by
 obtain ⟨q,hq⟩:=hf.at_;exact dR (vs:=[.agg row]) hr.1 ⟨⟨_,hr.2,eF q S hq hu hd (by rw [hm];exact hz)⟩,trivial⟩ hR
theorem awk (hr:fn.results=[ResultVar.cell i ty,ResultVar.tmp j].toArray:=by exact rfl) (h1:lk l j=some v1:=by exact rfl) (hc:lk l i=some (.pointer (some ⟨b,0,none⟩)):=by exact rfl) (S:St B w0 w fs:=by assumption) (hf:lD b fs row tt:=by repeat' first | exact lD.z | apply lD.s) (hu:P.underlying ty=some ds:=by exact RV) (hd:ds.isRow=true:=by exact rfl) (hz:(P.info? ty).map (·.size)=some m:=by exact iiQ) (hm:row.size=m:=by exact rfl):Step (wQ N (bodyPost P fn R) .ret l w) (R (.returned (qx [.agg row,v1])) w):=λhR=>by
 obtain ⟨q,hq⟩:=hf.at_;exact dR (vs:=[.agg row,v1]) hr ⟨⟨_,hc,eF q S hq hu hd (by rw [hm];exact hz)⟩,h1,trivial⟩ hR
theorem awl (hr:fn.results=[ResultVar.cell i ty,ResultVar.tmp j,ResultVar.tmp k].toArray:=by exact rfl) (h1:lk l j=some v1:=by exact rfl) (h2:lk l k=some v2/\lk l i=some (.pointer (some ⟨b,0,none⟩)):=by exact ⟨rfl,rfl⟩) (S:St B w0 w fs:=by assumption) (hf:lD b fs row tt:=by repeat' first | exact lD.z | apply lD.s) (hu:P.underlying ty=some ds:=by exact RV) (hd:ds.isRow=true:=by exact rfl) (hz:(P.info? ty).map (·.size)=some m:=by exact iiQ) (hm:row.size=m:=by exact rfl):Step (wQ N (bodyPost P fn R) .ret l w) (R (.returned (qx [.agg row,v1,v2])) w):=λhR=>by
 obtain ⟨q,hq⟩:=hf.at_;exact dR (vs:=[.agg row,v1,v2]) hr ⟨⟨_,h2.2,eF q S hq hu hd (by rw [hm];exact hz)⟩,h1,h2.1,trivial⟩ hR
theorem awm {r:Nat} (hr:fn.results=[ResultVar.cell i ty,ResultVar.tmp j,ResultVar.tmp k,ResultVar.tmp r].toArray:=by exact rfl) (h1:lk l j=some v1:=by exact rfl) (h2:lk l k=some v2/\lk l r=some v3/\lk l i=some (.pointer (some ⟨b,0,none⟩)):=by exact ⟨rfl,rfl,rfl⟩) (S:St B w0 w fs:=by assumption) (hf:lD b fs row tt:=by repeat' first | exact lD.z | apply lD.s) (hu:P.underlying ty=some ds:=by exact RV) (hd:ds.isRow=true:=by exact rfl) (hz:(P.info? ty).map (·.size)=some m:=by exact iiQ) (hm:row.size=m:=by exact rfl):Step (wQ N (bodyPost P fn R) .ret l w) (R (.returned (qx [.agg row,v1,v2,v3])) w):=λhR=>by
 obtain ⟨q,hq⟩:=hf.at_;exact dR (vs:=[.agg row,v1,v2,v3]) hr ⟨⟨_,h2.2.2,eF q S hq hu hd (by rw [hm];exact hz)⟩,h1,h2.1,h2.2.1,trivial⟩ hR
end
theorem gLQ {B:Prop} (h:Step (wL P N ops Q rest l w) B):Step (wL P N ops Q rest l w) B:=h
theorem gQQ {B:Prop} (h:Step (wQ N Q ex l w) B):Step (wQ N Q ex l w) B:=h
theorem gUQ {B:Prop} {C:World->Prop} {Qa:Act->Prop} (h:Step (wU P N ops C Qa rest l) B):Step (wU P N ops C Qa rest l) B:=h
theorem gAQ {B:Prop} {C:World->Prop} {n:Nat} {ls:List Bool} (h:Step (wA P N ops Q C (n+1) ls.toArray l w) B):Step (wA P N ops Q C (n+1) ls.toArray l w) B:=h
theorem gGQ {B:Prop} {C:World->Prop} {n m:Nat} {ls:List Bool} (h:Step (wG P N ops Q C n (m+1) ls.toArray l w) B):Step (wG P N ops Q C n (m+1) ls.toArray l w) B:=h
section
variable {K:Act->World->Prop} {x y:Code} {id:Nat} {os:List Oper} {c:Operand} {C:World->Prop} {Qa:Act->Prop} {j t n:Nat} {u:Value} {b:Bool} {listed:Array Bool} {A B:Prop}
theorem s1Q:Step (wQ N (Exit.then (y.wp P Q) Q) .normal l w) (wC P N y Q l w):=aI
theorem s2Q:Step (wC P N (.seq x y) Q l w) (wC P N x (Exit.then (y.wp P Q) Q) l w):=aH
theorem s3Q:Step (wC P N (.region id os.toArray false) Q l w) (wL P N os.toArray Q os l w):=aB
theorem s4Q:Step (wC P N .skip Q l w) (wQ N Q .normal l w):=gG
theorem s5Q:Step (wC P N (.block id x) Q l w) (wC P N x (Exit.inBlock id Q) l w):=lg
theorem s6Q:Step (wQ N (Exit.inBlock id Q) .normal l w) (wQ N Q .normal l w):=bY
theorem s7Q:Step (wC P N .ret Q l w) (wQ N Q .ret l w):=nG
theorem s8Q:Step (wQ N (Exit.then K Q) .ret l w) (wQ N Q .ret l w):=gT
theorem s9Q:Step (wQ N (Exit.inBlock id Q) .ret l w) (wQ N Q .ret l w):=Ux
theorem awn:Step (wC P N (.exit id) Q l w) (wQ N Q (.exit id) l w):=um
theorem awo:Step (wQ N (Exit.then K Q) (.exit id) l w) (wQ N Q (.exit id) l w):=fF
theorem awp:Step (wQ N (Exit.inBlock id Q) (.exit id) l w) (wQ N Q .normal l w):=kW
theorem awq:Step (wL P N ops Q [] l w) (wQ N Q .normal l w):=Dw
theorem awr (hc:ev l c=some (.bool true)):Step (wC P N (.cond c x y) Q l w) (wC P N x Q l w):=iT hc
theorem awt (hc:ev l c=some (.bool false)):Step (wC P N (.cond c x y) Q l w) (wC P N y Q l w):=dD hc
theorem awu (hg:o.guard=some (j,b)/\(ops[j]?).bind (·.dst)=some t:=by exact ⟨rfl,rfl⟩) (hv:lk l t=some u:=by exact rfl) (hr:(yl u==some b)=false/\o.dst=some d/\Nat.blt d N=true:=by exact ⟨rfl,rfl,rfl⟩):Step (wL P N ops Q (o::rest) l w) (wL P N ops Q rest ((d,undef)::l) w):=VN (wg hg.1 hg.2 hv hr.1) hr.2.1 hr.2.2
theorem awv (hg:o.guard=some (j,b)/\(ops[j]?).bind (·.dst)=some t:=by exact ⟨rfl,rfl⟩) (hv:lk l t=some u:=by exact rfl) (hr:(yl u==some b)=false/\o.dst=some d/\Nat.blt d N=true:=by exact ⟨rfl,rfl,rfl⟩):Step (wU P N ops C Qa (o::rest) l) (wU P N ops C Qa rest ((d,undef)::l)):=VT (wg hg.1 hg.2 hv hr.1) hr.2.1 hr.2.2
theorem aww (hr:Region.ready .any ops listed=[]):Step (wA P N ops Q C n listed l w) (wQ N Q .normal l w):=afF hr
theorem aoc {G:Prop} (h:G:=by first | assumption | exact St.fit (by assumption)):Step (G/\A) A:=And.intro h
end
inductive Steps:Nat->Prop->Prop->Prop
 | z {A:Prop}:Steps 0 A A
 | s {n:Nat} {A B C:Prop}:Step A B->Steps n B C->Steps (n+1) A C
theorem Steps.go {n:Nat} {A B:Prop} (h:Steps n A B):B->A:=by
 induction h with
 | z=>exact id
 | s h _ ih=>exact λb=>h (ih b)
theorem sQ {A B:Prop} (hs:Step A B:=by first | with_reducible exact awq | ((with_reducible apply gLQ);first | exact q1Q | exact q2Q | exact awu) | with_reducible exact s1Q | with_reducible exact s2Q | with_reducible exact s3Q | with_reducible exact s4Q | with_reducible exact s5Q | with_reducible exact s6Q | with_reducible exact s7Q | with_reducible exact s8Q | with_reducible exact s9Q | with_reducible exact awn | with_reducible exact awo | with_reducible exact awp | ((with_reducible refine awr ?_);exact rfl) | ((with_reducible refine awt ?_);exact rfl) | ((with_reducible apply gUQ);first | exact q3Q | exact q4Q | exact awv) | ((with_reducible apply gQQ);first | exact p1Q | exact awk | exact p2Q | exact awj | exact p3Q | exact awl | exact p0Q | exact awi | exact awm)):Step A B:=hs
theorem zQ {A B:Prop} (h:B) (hs:Step A B:=by exact sQ):A:=hs h
theorem zN {A B:Prop} (n:Nat) (h:B) (hs:Steps n A B:=by repeat' first | exact Steps.z | apply Steps.s | exact sQ):A:=hs.go h
theorem sQa {A B:Prop} (hs:Step A B:=by first | ((with_reducible apply gAQ);first | exact V5 0 | exact V7 0 | exact V8 0 | exact V5 1 | exact V7 1 | exact V8 1 | exact V5 2 | exact V7 2 | exact V8 2 | exact V5 3 | exact V7 3 | exact V8 3 | exact V5 4 | exact V7 4 | exact V8 4 | exact V5 5 | exact V7 5 | exact V8 5 | exact V5 6 | exact V7 6 | exact V8 6 | exact V5 7 | exact V7 7 | exact V8 7 | exact V5 8 | exact V7 8 | exact V8 8 | exact V5 9 | exact V7 9 | exact V8 9) | ((with_reducible apply aww);kernel_rfl) | exact aoc):Step A B:=hs
theorem dG {A B:Prop} (h:B) (hs:Step A B:=by exact sQa):A:=hs h
theorem aL {A B:Prop} (n:Nat) (h:B) (hs:Steps n A B:=by repeat' first | exact Steps.z | apply Steps.s | exact sQa):A:=hs.go h
theorem gK {A B:Prop} (h:B) (hs:Step A B:=by first | ((with_reducible apply gGQ);first | exact V6 0 | exact V9 0 | exact Gu 0 | exact V6 1 | exact V9 1 | exact Gu 1 | exact V6 2 | exact V9 2 | exact Gu 2 | exact V6 3 | exact V9 3 | exact Gu 3 | exact V6 4 | exact V9 4 | exact Gu 4 | exact V6 5 | exact V9 5 | exact Gu 5 | exact V6 6 | exact V9 6 | exact Gu 6 | exact V6 7 | exact V9 7 | exact Gu 7 | exact V6 8 | exact V9 8 | exact Gu 8 | exact V6 9 | exact V9 9 | exact Gu 9) | exact aoc):A:=hs h
section
variable {t:TypeId} {row:Array Value}
def sH (P:Program) (t:TypeId) (row:Array Value):Prop:= ∃ z,(∀ w,(zeroValue t).run P w= .ok z w)/\z.cells=row
theorem fO (S:St B w0 w fs) (hz:sH P t row) (h: ∀ b w',St B w0 w' (.blk b row t::fs)->wL P N ops Q rest ((d,.pointer (some ⟨b,0,none⟩))::l) w') (hw:o.guard=none/\o.dst=some d/\Nat.blt d N=true/\o.op= .alloc t:=by exact ⟨rfl,rfl,rfl,rfl⟩):wL P N ops Q (o::rest) l w:=by
 obtain ⟨z,h1,h2⟩:=hz;exact lJ (V:=λb=> .pointer (some ⟨b,0,none⟩)) S (wn hw.1) hw.2.1 hw.2.2.1 (iD hw.2.2.2 (h1 w) h2) h
theorem kX {C:World->Prop} {n:Nat} {ls ls':List Bool} (j:Nat) (hi':ops[j]? =some o) (S:St B w0 w fs) (hz:sH P t row) (h: ∀ b w',St B w0 w' (.blk b row t::fs)->C w'/\wA P N ops Q C n ls'.toArray ((d,.pointer (some ⟨b,0,none⟩))::l) w') (hl:qc ls j ls':=by repeat' first | exact qc.z | apply qc.s) (hw:o.guard=none/\o.dst=some d/\Nat.blt d N=true/\o.op= .alloc t:=by exact ⟨rfl,rfl,rfl,rfl⟩):wK P N ops Q C n j ls.toArray l w:=by
 obtain ⟨z,h1,h2⟩:=hz;exact jJ (V:=λb=> .pointer (some ⟨b,0,none⟩)) hi' hl.eq S (wn hw.1) hw.2.1 hw.2.2.1 (iD hw.2.2.2 (h1 w) h2) h
end
theorem zr3:sH Tryz.prog 3 #[.int .i64 0]:=⟨_,Tryz.zeroValue3,rfl⟩
theorem Ez:sH Tryz.prog 27 #[.int .i64 0,.int .i64 0]:=⟨_,Tryz.zeroValue27,rfl⟩
theorem aeb:sH Tryz.prog 30 #[.int .i64 0,.int .i64 0,.int .i64 0,.int .i64 0,.int .i64 0,.int .i64 0,.int .i64 0,.int .i64 0]:=⟨_,Tryz.zeroValue30,rfl⟩
theorem aec:sH Tryz.prog 35 #[.int .i64 0,.bool false,.bool false,.bool false,.bool false,.bool false,.int .i64 0,.int .i64 0,.int .i64 0,.int .i64 0,.int .i64 0,.int .i64 0,.int .i64 0,.int .i64 0,.slice none 0 0,.slice none 0 0,.slice none 0 0,.int .i64 0]:=⟨_,Tryz.zeroValue35,rfl⟩
theorem fM:sH Tryz.prog 73 #[.int .i64 0,.int .i64 0,.int .i64 0,.int .i64 0,.int .i64 0,.slice none 0 0]:=⟨_,Tryz.zeroValue73,rfl⟩
theorem ajr:sH Tryz.prog 43 #[.int .i64 0,.bool false,.bool false,.bool false,.bool false,.bool false,.bool false,.bool false,.bool false]:=⟨_,Tryz.zeroValue43,rfl⟩
theorem XL:sH Tryz.prog 55 #[.int .i64 0,.int .i64 0,.int .i64 0,.int .i64 0,.int .i64 0,.int .i64 0]:=⟨_,Tryz.zeroValue55,rfl⟩
theorem XM:sH Tryz.prog 69 #[.int .i64 0,.int .i64 0,.int .i64 0,.int .i64 0,.int .i64 0,.int .i64 0,.int .i64 0,.int .i64 0,.int .i64 0,.int .i64 0,.int .i64 0]:=⟨_,Tryz.zeroValue69,rfl⟩
theorem rE:sH Tryz.prog 58 #[.int .i64 0,.int .i64 0,.int .i64 0,.int .i64 0]:=⟨_,Tryz.zeroValue58,rfl⟩
theorem awx:sH Tryz.prog 81 #[.int .i64 0,.int .i64 0,.int .i64 0,.int .i64 0,.int .i64 0,.int .i64 0,.int .i64 0]:=⟨_,Tryz.zeroValue81,rfl⟩
theorem awy:sH Tryz.prog 62 #[.int .i64 0,.int .i64 0]:=⟨_,Tryz.zeroValue62,rfl⟩
theorem aod:sH Tryz.prog 64 #[.int .i64 0,.int .i64 0,.int .i64 0,.int .i64 0]:=⟨_,Tryz.zeroValue64,rfl⟩
theorem xV:sH Tryz.prog 116 #[.slice none 0 0,.int .i64 0]:=⟨_,Tryz.zeroValue116,rfl⟩
theorem asi:sH Tryz.prog 120 #[.int .i64 0,.bool false,.slice none 0 0,.int .i64 0,.slice none 0 0,.int .i64 0,.int .i64 0,.int .i64 0,.int .i64 0,.int .i64 0,.int .i64 0,.int .i64 0,.int .i64 0,.bool false,.bool false,.bool false,.bool false,.slice none 0 0,.nilFunc,.int .i64 0]:=⟨_,Tryz.zeroValue120,rfl⟩
theorem DT:sH Tryz.prog 141 #[.pointer none,.int .i64 0]:=⟨_,Tryz.zeroValue141,rfl⟩
theorem aaD:sH Tryz.prog 146 #[.int .i64 0,.int .i64 0,.int .i64 0,.int .i64 0,.int .i64 0,.int .i64 0,.int .i64 0,.int .i64 0,.int .i64 0,.int .i64 0,.int .i64 0,.int .i64 0,.int .i64 0,.slice none 0 0,.bool false,.int .i64 0,.int .i64 0,.int .i64 0,.int .i64 0,.int .i64 0,.int .i64 0,.int .i64 0,.int .i64 0]:=⟨_,Tryz.zeroValue146,rfl⟩
theorem vI:sH Tryz.prog 171 #[.int .i64 0,.int .i64 0,.int .i64 0,.int .i64 0,.int .i64 0,.int .i64 0,.int .i64 0,.int .i64 0,.int .i64 0,.int .i64 0]:=⟨_,Tryz.zeroValue171,rfl⟩
theorem asj:sH Tryz.prog 227 #[.nilFunc]:=⟨_,Tryz.zeroValue227,rfl⟩
theorem lH {a b:Nat} (h:a<=b:=by first | assumption | exact Nat.zero_le _ | (dsimp only;omega) | (simp only [List.length_append,List.length_cons,List.length_nil,List.length_drop,List.length_take] at*;omega)):a<=b:=h
inductive Out:List Fact->Nat->Fact->List Fact->Prop
 | z {f:Fact} {fs:List Fact}:Out (f::fs) 0 f fs
 | s {f g:Fact} {fs gs:List Fact} {i:Nat}:Out fs i f gs->Out (g::fs) (i+1) f (g::gs)
theorem Out.eq {fs gs:List Fact} {i:Nat} {f:Fact} (h:Out fs i f gs):fs[i]? =some f/\fs.eraseIdx i=gs:=by
 induction h with
 | z=>exact ⟨rfl,rfl⟩
 | s _ ih=>exact ⟨by simpa using ih.1,by rw [List.eraseIdx_cons_succ,ih.2]⟩
inductive Brs:List Fact->List Nat->List Fact->Prop
 | z {fs:List Fact}:Brs fs [] fs
 | s {fs gs hs:List Fact} {i:Nat} {is:List Nat} {f:Fact}:Out fs i f gs->Brs (f::gs) is hs->Brs fs (i::is) hs
theorem St.dZ {gs:List Fact} (S:St B w0 w fs) (is:List Nat) (h:Brs fs is gs:=by repeat' first | exact Brs.z | exact Out.z | apply Brs.s | apply Out.s):St B w0 w gs:=by
 induction h with
 | z=>exact S
 | s h _ ih=>
  obtain ⟨h1,h2⟩:=h.eq;have:=S.bring _ h1;rw [h2] at this;exact ih this
inductive Pn:List Fact->List Nat->List Fact->Prop
 | z {fs:List Fact}:Pn fs [] fs
 | s {fs gs hs:List Fact} {i:Nat} {is:List Nat} {f:Fact}:Out fs i f gs->Pn gs is hs->Pn fs (i::is) hs
theorem St.aT {gs:List Fact} (S:St B w0 w fs) (is:List Nat) (h:Pn fs is gs:=by repeat' first | exact Pn.z | exact Out.z | apply Pn.s | apply Out.s):St B w0 w gs:=by
 induction h with
 | z=>exact S
 | s h _ ih=>
  refine ih ?_;rw [<-h.eq.2];exact S.del _
section
variable {id n m:Nat} {os:List Oper} {gs:List Fact}
theorem aK (n:Nat) (S:St B w0 w.drew gs) (is:List Nat) (h:wA P N os.toArray Q (λw'=>St B w0 w' fs) n (List.replicate n false).toArray l w.drew) (hd:Pn gs is fs:=by repeat' first | exact Pn.z | exact Out.z | apply Pn.s | apply Out.s) (hm:P.follows .mixedOrders=true:=by exact mixed) (hn:os.length=n:=by exact rfl):wC P N (.region id os.toArray true) Q l w:=Gp hm hn (by simp) h
theorem fq (m n:Nat) (S:St B w0 w.drew gs) (is:List Nat) (h:wG P N os.toArray Q (λw'=>St B w0 w' fs) n m (List.replicate m false).toArray l w.drew) (hd:Pn gs is fs:=by repeat' first | exact Pn.z | exact Out.z | apply Pn.s | apply Out.s) (hm:P.follows .mixedOrders=true:=by exact mixed) (hn:os.length=m:=by exact rfl):wC P N (.region id os.toArray true) Q l w:=zi n hm hn (by simp) h
end
inductive Bc:List Value->Nat->List Value->List Value->Prop
 | n {l:List Value}:Bc l 0 [] l
 | c {x y:Value} {l cs l':List Value}:Bc l 0 cs l'->Bc (x::l) 0 (y::cs) (y::l')
 | s {x:Value} {i:Nat} {l cs l':List Value}:Bc l i cs l'->Bc (x::l) (i+1) cs (x::l')
theorem Bc.spec {l cs l':List Value} {i:Nat} (h:Bc l i cs l'):i+cs.length<=l.length/\l.take i++cs++l.drop (i+cs.length)=l':=by
 induction h with
 | n=>simp
 | c _ ih=>obtain ⟨h1,h2⟩:=ih;simp only [List.take_zero,List.nil_append,Nat.zero_add,List.length_cons,List.cons_append,List.drop_succ_cons] at h1 h2⊢;exact ⟨by omega,by rw [h2]⟩
 | @s x i l cs l' _ ih=>obtain ⟨h1,h2⟩:=ih;refine ⟨by simp;omega,?_⟩;rw [show i+1+cs.length=(i+cs.length)+1 by omega,List.take_succ_cons,List.drop_succ_cons,List.cons_append,List.cons_append,h2]
theorem Bc.eq {l cs l':List Value} {i:Nat} (h:Bc l i cs l'):dn l.toArray i cs=l'.toArray:=by
 obtain ⟨h1,h2⟩:=h.spec;apply Array.toList_inj.1;rw [gQ _ _ _ (by simpa using h1)];simpa using h2
section
variable {b m off:Nat} {rw_ rw':List Value} {cs:Array Value} {t ty:TypeId} {x y:Operand}
theorem FI (i:Nat) (S:St B w0 w fs) (hz:(P.info? ty).map (·.size)=some m) (h: ∀ w',St B w0 w' fs'->wL P N ops Q rest l w') (hw:o.guard=none/\o.dst=none/\o.op= .store ty x y/\ev l x=some (.pointer (some ⟨b,off,none⟩))/\ev l y=some v:=by exact ⟨rfl,rfl,rfl,rfl,rfl⟩) (hi:fs[i]? =some (.blk b rw_.toArray t):=by exact rfl) (hv:v.cells=cs:=by exact rfl) (hm:cs.size=m:=by exact rfl) (h1: ∀ u∈cs.toList,u.oneCell'=true:=by exact bL rfl) (hr:Nat.ble (off+m) rw_.toArray.size=true:=by exact rfl) (hs:Bc rw_ off cs.toList rw':=by repeat' first | exact Bc.n | apply Bc.c | apply Bc.s) (hf:iB (.blk b rw'.toArray t) fs i fs':=by repeat' first | exact iB.z | apply iB.s):wL P N ops Q (o::rest) l w:=zf i S (wn hw.1) hw.2.1 hw.2.2.1 hw.2.2.2.1 hw.2.2.2.2 hi hv hz hm h1 (Nat.le_of_ble_eq_true hr) hs.eq hf.eq h
end
section
variable {C:World->Prop} {n:Nat} {ls ls':List Bool} {row:Array Value} {t tt:TypeId} {x:Operand}
theorem iC (S:St B w0 w fs) (h: ∀ b w',St B w0 w' (.blk b row t::fs)->wL P N ops Q rest ((d,.pointer (some ⟨b,0,none⟩))::l) w') (hw:o.guard=none/\o.dst=some d/\Nat.blt d N=true/\o.op= .box t x/\ev l x=some (.agg row):=by exact ⟨rfl,rfl,rfl,rfl,rfl⟩):wL P N ops Q (o::rest) l w:=lJ (V:=λb=> .pointer (some ⟨b,0,none⟩)) S (wn hw.1) hw.2.1 hw.2.2.1 (aat hw.2.2.2.1 hw.2.2.2.2 rfl) h
theorem RX (S:St B w0 w fs) (h: ∀ b w',St B w0 w' (.blk b #[v] t::fs)->wL P N ops Q rest ((d,.pointer (some ⟨b,0,none⟩))::l) w') (hw:o.guard=none/\o.dst=some d/\Nat.blt d N=true/\o.op= .box t x/\ev l x=some v:=by exact ⟨rfl,rfl,rfl,rfl,rfl⟩) (hv:v.cells= #[v]:=by exact rfl):wL P N ops Q (o::rest) l w:=lJ (V:=λb=> .pointer (some ⟨b,0,none⟩)) S (wn hw.1) hw.2.1 hw.2.2.1 (aat hw.2.2.2.1 hw.2.2.2.2 hv) h
theorem NS (S:St B w0 w fs) (h: ∀ b w',St B w0 w' (.blk b row tt::fs)->wL P N ops Q rest ((d,.slice (some ⟨b,0,none⟩) 1 1)::l) w') (hw:o.guard=none/\o.dst=some d/\Nat.blt d N=true/\o.op= .buildSlice t 1 [(0,x)].toArray/\ev l x=some (.agg row):=by exact ⟨rfl,rfl,rfl,rfl,rfl⟩) (hu:P.underlying t=some (.slice tt):=by exact RV) (hr:(Instr.buildSlice t 1 [(0,Value.agg row)].toArray).run P w= .ok (.slice (some ⟨w.heap.size,0,none⟩) 1 1) (w.alloc (.cells row tt)):=by kernel_rfl):wL P N ops Q (o::rest) l w:=lJ (V:=λb=> .slice (some ⟨b,0,none⟩) 1 1) S (wn hw.1) hw.2.1 hw.2.2.1 (aV (vs:=[(0,.agg row)]) hw.2.2.2.1 ⟨rfl,hw.2.2.2.2,trivial⟩ hr) h
theorem bsI (S:St B w0 w fs) (h: ∀ b w',St B w0 w' (.blk b #[v] tt::fs)->wL P N ops Q rest ((d,.slice (some ⟨b,0,none⟩) 1 1)::l) w') (hw:o.guard=none/\o.dst=some d/\Nat.blt d N=true/\o.op= .buildSlice t 1 [(0,x)].toArray/\ev l x=some v:=by exact ⟨rfl,rfl,rfl,rfl,rfl⟩) (hu:P.underlying t=some (.slice tt):=by exact RV) (hr:(Instr.buildSlice t 1 [(0,v)].toArray).run P w= .ok (.slice (some ⟨w.heap.size,0,none⟩) 1 1) (w.alloc (.cells #[v] tt)):=by kernel_rfl):wL P N ops Q (o::rest) l w:=lJ (V:=λb=> .slice (some ⟨b,0,none⟩) 1 1) S (wn hw.1) hw.2.1 hw.2.2.1 (aV (vs:=[(0,v)]) hw.2.2.2.1 ⟨rfl,hw.2.2.2.2,trivial⟩ hr) h
theorem EA (j:Nat) (hi':ops[j]? =some o) (S:St B w0 w fs) (h: ∀ b w',St B w0 w' (.blk b row tt::fs)->C w'/\wA P N ops Q C n ls'.toArray ((d,.slice (some ⟨b,0,none⟩) 1 1)::l) w') (hl:qc ls j ls':=by repeat' first | exact qc.z | apply qc.s) (hw:o.guard=none/\o.dst=some d/\Nat.blt d N=true/\o.op= .buildSlice t 1 [(0,x)].toArray/\ev l x=some (.agg row):=by exact ⟨rfl,rfl,rfl,rfl,rfl⟩) (hu:P.underlying t=some (.slice tt):=by exact RV) (hr:(Instr.buildSlice t 1 [(0,Value.agg row)].toArray).run P w= .ok (.slice (some ⟨w.heap.size,0,none⟩) 1 1) (w.alloc (.cells row tt)):=by kernel_rfl):wK P N ops Q C n j ls.toArray l w:=jJ (V:=λb=> .slice (some ⟨b,0,none⟩) 1 1) hi' hl.eq S (wn hw.1) hw.2.1 hw.2.2.1 (aV (vs:=[(0,.agg row)]) hw.2.2.2.1 ⟨rfl,hw.2.2.2.2,trivial⟩ hr) h
end
inductive vZ (l:Slots):List Operand->List Value->Prop
 | z:vZ l [] []
 | s {x:Operand} {xs:List Operand} {v:Value} {vs:List Value}:ev l x=some v->vZ l xs vs->vZ l (x::xs) (v::vs)
theorem vZ.evs {xs:List Operand} {vs:List Value} (h:vZ l xs vs):NC l xs vs:=by
 induction h with
 | z=>exact trivial
 | s h _ ih=>exact ⟨h,ih⟩
section
variable {f:FuncId} {first cap us vs:List Value} {x:Operand} {xs ys:List Operand} {ts:Array TypeId} {R:Ending->World->Prop}
theorem uO (Ku: ∀ args w,(callFunc f args).run P w= .ok (.enter f args) w) (hc:Calls P f us.toArray w R) (h: ∀ e w',R e w'-> ∃ v,e= .returned v/\wL P N ops Q rest ((d,v)::l) w') (hw:o.guard=none/\o.dst=some d/\Nat.blt d N=true/\o.op= .call { callee:= .value x,args:=xs.toArray,argTypes:=ts }:=by exact ⟨rfl,rfl,rfl,rfl⟩) (hv:ev l x=some (.func (.func f) first.toArray cap.toArray):=by exact rfl) (hx:vZ l xs vs:=by repeat' first | exact vZ.z | apply vZ.s rfl) (hu:first++vs++cap=us:=by exact rfl):wL P N ops Q (o::rest) l w:=Gg (wn hw.1) hw.2.1 hw.2.2.1 (V4 hw.2.2.2 hv Ku hx.evs hu) hc h
theorem kH {C:World->Prop} {n:Nat} {ls ls':List Bool} (j:Nat) (hi':ops[j]? =some o) (Ku: ∀ args w,(callFunc f args).run P w= .ok (.enter f args) w) (hc:Calls P f us.toArray w R) (h: ∀ e w',R e w'-> ∃ v,e= .returned v/\C w'/\wA P N ops Q C n ls'.toArray ((d,v)::l) w') (hl:qc ls j ls':=by repeat' first | exact qc.z | apply qc.s) (hw:o.guard=none/\o.dst=some d/\Nat.blt d N=true/\o.op= .call { callee:= .value x,args:=xs.toArray,argTypes:=ts }:=by exact ⟨rfl,rfl,rfl,rfl⟩) (hv:ev l x=some (.func (.func f) first.toArray cap.toArray):=by exact rfl) (hx:vZ l xs vs:=by repeat' first | exact vZ.z | apply vZ.s rfl) (hu:first++vs++cap=us:=by exact rfl):wK P N ops Q C n j ls.toArray l w:=vF hi' hl.eq (wn hw.1) hw.2.1 hw.2.2.1 (V4 hw.2.2.2 hv Ku hx.evs hu) hc h
theorem jC {C:World->Prop} {n:Nat} {ls ls':List Bool} (j:Nat) (hi':ops[j]? =some o) (Ku: ∀ args w,(callFunc f args).run P w= .ok (.enter f args) w) (hc:Calls P f vs.toArray w R) (h: ∀ e w',R e w'-> ∃ v,e= .returned v/\C w'/\wA P N ops Q C n ls'.toArray ((d,v)::l) w') (hl:qc ls j ls':=by repeat' first | exact qc.z | apply qc.s) (hw:o.guard=none/\o.dst=some d/\Nat.blt d N=true/\(o.op= .call { callee:= .value (.func f),args:=xs.toArray,argTypes:=ts }):=by exact ⟨rfl,rfl,rfl,rfl⟩) (hx:NC l xs vs:=by repeat' first | exact trivial | refine ⟨rfl,?_⟩):wK P N ops Q C n j ls.toArray l w:=vF hi' hl.eq (wn hw.1) hw.2.1 hw.2.2.1 (iM hw.2.2.2 Ku hx) hc h
theorem Hq {g:Fn} (ho:o.op= .makeFunc g xs.toArray ys.toArray:=by exact rfl) (hx:vZ l xs vs:=by repeat' first | exact vZ.z | apply vZ.s rfl) (hy:vZ l ys us:=by repeat' first | exact vZ.z | apply vZ.s rfl):fV P N l o w (.func g vs.toArray us.toArray):=Jk ho hx.evs hy.evs
end
inductive Lr (l:Slots):List (Nat×Operand)->List (Nat×Value)->Prop
 | z:Lr l [] []
 | s {i:Nat} {x:Operand} {xs:List (Nat×Operand)} {v:Value} {vs:List (Nat×Value)}:ev l x=some v->Lr l xs vs->Lr l ((i,x)::xs) ((i,v)::vs)
theorem Lr.evp {xs:List (Nat×Operand)} {vs:List (Nat×Value)} (h:Lr l xs vs):EvP l xs vs:=by
 induction h with
 | z=>exact trivial
 | s h _ ih=>exact ⟨rfl,h,ih⟩
theorem fT {t:TypeId} {xs:List (Nat×Operand)} {vs:List (Nat×Value)} (ho:o.op= .build t xs.toArray:=by exact rfl) (hx:Lr l xs vs:=by repeat' first | exact Lr.z | apply Lr.s rfl) (hr:(Instr.build t vs.toArray).run P w= .ok v w:=by kernel_rfl):fV P N l o w v:=Cc ho hx.evp hr
section
variable {kd:IntKind} {xo yo:Operand} {x y z:Int} {t tt:TypeId}
theorem jg (ho:o.op= .binOp .add t xo yo tt/\ev l xo=some (.int .i64 x)/\ev l yo=some (.int .i64 y):=by exact ⟨rfl,rfl,rfl⟩) (hz:x+y=z:=by omega) (h: -9223372036854775808<=z/\z<=9223372036854775807:=by omega):fV P N l o w (.int .i64 z):=aF ho.1 ho.2.1 ho.2.2 (lS hz h)
theorem ysu (ho:o.op= .binOp .sub t xo yo tt/\ev l xo=some (.int .i64 x)/\ev l yo=some (.int .i64 y):=by exact ⟨rfl,rfl,rfl⟩) (hz:x-y=z:=by omega) (h: -9223372036854775808<=z/\z<=9223372036854775807:=by omega):fV P N l o w (.int .i64 z):=aF ho.1 ho.2.1 ho.2.2 (arf hz h)
theorem jX {p e:TypeId} {b off n c s:Nat} {i:Int} {xo yo:Operand} (k:Nat) (ho:o.op= .indexAddr p xo yo/\ev l xo=some (.slice (some ⟨b,off,none⟩) n c)/\ev l yo=some (.int kd i):=by exact ⟨rfl,rfl,rfl⟩) (hu:P.underlying p=some (.slice e):=by exact RV) (hz:(P.info? e).map (·.size)=some s:=by exact iiQ) (hik:i=k:=by first | rfl | omega | simp) (hk:k<n:=by first | omega | simp | decide):fV P N l o w (.pointer (some ⟨b,off+k*s,none⟩)):=aO ho.1 ho.2.1 ho.2.2 (zI k hu hz hik hk)
end
section
variable {b m off:Nat} {row row' cs:Array Value} {t ty:TypeId} {x y:Operand} {C:World->Prop} {n:Nat} {ls ls':List Bool}
theorem jk (i:Nat) (S:St B w0 w fs) (hz:(P.info? ty).map (·.size)=some m) (h: ∀ w',St B w0 w' fs'->wL P N ops Q rest l w') (hw:o.guard=none/\o.dst=none/\o.op= .store ty x y/\ev l x=some (.pointer (some ⟨b,off,none⟩))/\ev l y=some v:=by exact ⟨rfl,rfl,rfl,rfl,rfl⟩) (hi:fs[i]? =some (.blk b row t):=by exact rfl) (hv:v.cells=cs:=by exact rfl) (hm:cs.size=m:=by exact rfl) (h1: ∀ u∈cs.toList,u.oneCell'=true:=by exact bL rfl) (hr:Nat.ble (off+m) row.size=true:=by exact rfl) (hs:dn row off cs.toList=row':=by exact rfl) (hf:iB (.blk b row' t) fs i fs':=by repeat' first | exact iB.z | apply iB.s):wL P N ops Q (o::rest) l w:=zf i S (wn hw.1) hw.2.1 hw.2.2.1 hw.2.2.2.1 hw.2.2.2.2 hi hv hz hm h1 (Nat.le_of_ble_eq_true hr) hs hf.eq h
theorem stA (i:Nat) (S:St B w0 w fs) (hz:(P.info? ty).map (·.size)=some m) (h: ∀ w',St B w0 w' fs'->wL P N ops Q rest l w') (hw:o.guard=none/\o.dst=none/\o.op= .store ty x y/\ev l x=some (.pointer (some ⟨b,0,none⟩))/\ev l y=some v:=by exact ⟨rfl,rfl,rfl,rfl,rfl⟩) (hi:fs[i]? =some (.blk b row t):=by exact rfl) (hv:v.cells=cs:=by exact rfl) (hm:cs.size=m:=by exact rfl) (h1: ∀ u∈cs.toList,u.oneCell'=true:=by exact bL rfl) (hs:row.size=cs.size:=by exact rfl) (hr:Nat.ble (0+m) row.size=true:=by exact rfl) (hf:iB (.blk b cs t) fs i fs':=by repeat' first | exact iB.z | apply iB.s):wL P N ops Q (o::rest) l w:=zf i S (wn hw.1) hw.2.1 hw.2.2.1 hw.2.2.2.1 hw.2.2.2.2 hi hv hz hm h1 (Nat.le_of_ble_eq_true hr) (mo hs) hf.eq h
theorem snz (j:Nat) (hi':ops[j]? =some o) (i:Nat) (S:St B w0 w fs) (hz:(P.info? ty).map (·.size)=some m) (h: ∀ w',St B w0 w' fs'->C w'/\wA P N ops Q C n ls'.toArray l w') (hl:qc ls j ls':=by repeat' first | exact qc.z | apply qc.s) (hw:o.guard=none/\o.dst=none/\o.op= .store ty x y/\ev l x=some (.pointer (some ⟨b,off,none⟩))/\ev l y=some v:=by exact ⟨rfl,rfl,rfl,rfl,rfl⟩) (hi:fs[i]? =some (.blk b row t):=by exact rfl) (hv:v.cells=cs:=by exact rfl) (hm:cs.size=m:=by exact rfl) (h1: ∀ u∈cs.toList,u.oneCell'=true:=by exact bL rfl) (hr:Nat.ble (off+m) row.size=true:=by exact rfl) (hs:dn row off cs.toList=row':=by exact rfl) (hf:iB (.blk b row' t) fs i fs':=by repeat' first | exact iB.z | apply iB.s):wK P N ops Q C n j ls.toArray l w:=sG hi' hl.eq i S (wn hw.1) hw.2.1 hw.2.2.1 hw.2.2.2.1 hw.2.2.2.2 hi hv hz hm h1 (Nat.le_of_ble_eq_true hr) hs hf.eq h
theorem XO (j:Nat) (hi':ops[j]? =some o) (i:Nat) (S:St B w0 w fs) (hz:(P.info? ty).map (·.size)=some m) (h: ∀ w',St B w0 w' fs'->C w'/\wA P N ops Q C n ls'.toArray l w') (hl:qc ls j ls':=by repeat' first | exact qc.z | apply qc.s) (hw:o.guard=none/\o.dst=none/\o.op= .store ty x y/\ev l x=some (.pointer (some ⟨b,0,none⟩))/\ev l y=some v:=by exact ⟨rfl,rfl,rfl,rfl,rfl⟩) (hi:fs[i]? =some (.blk b row t):=by exact rfl) (hv:v.cells=cs:=by exact rfl) (hm:cs.size=m:=by exact rfl) (h1: ∀ u∈cs.toList,u.oneCell'=true:=by exact bL rfl) (hs:row.size=cs.size:=by exact rfl) (hr:Nat.ble (0+m) row.size=true:=by exact rfl) (hf:iB (.blk b cs t) fs i fs':=by repeat' first | exact iB.z | apply iB.s):wK P N ops Q C n j ls.toArray l w:=sG hi' hl.eq i S (wn hw.1) hw.2.1 hw.2.2.1 hw.2.2.2.1 hw.2.2.2.2 hi hv hz hm h1 (Nat.le_of_ble_eq_true hr) (mo hs) hf.eq h
end
end
end
section
open ChangeShapes WideShapes ChangeAt RowKit
theorem Po {α:Type} {enc:α->List Value} {sz:Nat} (hsz: ∀ x,(enc x).length=sz): ∀ (k:Nat) (l:List α),(l.flatMap enc).drop (k*sz)=(l.drop k).flatMap enc
 | 0,l=>by simp
 | k+1,[]=>by simp
 | k+1,x::l=>by rw [List.flatMap_cons,Nat.succ_mul,Nat.add_comm,<-List.drop_drop,List.drop_left' (hsz x),Po hsz k l];rfl
theorem Pp {α:Type} {enc:α->List Value} {sz:Nat} (hsz: ∀ x,(enc x).length=sz): ∀ (k:Nat) (l:List α),(l.flatMap enc).take (k*sz)=(l.take k).flatMap enc
 | 0,l=>by simp
 | k+1,[]=>by simp
 | k+1,x::l=>by rw [List.flatMap_cons,Nat.succ_mul,Nat.add_comm,List.take_append,hsz x,List.take_of_length_le (by rw [hsz x];omega),Nat.add_sub_cancel_left,Pp hsz k l];rfl
theorem DU {P:Program} {t e:TypeId} {α:Type} {enc:α->List Value} {s:Nat} (hsz: ∀ x,(enc x).length=s) {A:Option Addr} {b:List α} {n c:Nat} {lo hi mx:Option Value} {l k q m c':Nat} (hu:P.underlying t=some (.slice e)) (hz:(P.info? e).map (·.size)=some s) (hb: ∀ w,(Instr.sliceBounds true n c lo hi mx).run P w= .ok (l,k,q) w)
  (hlk:l<=k) (hkn:k<=n) (hkq:k<=q) (hm:k-l=m) (hc:q-l=c'): ∃ A',(∀ w,(Instr.sliceAt t (.slice A n c) lo hi mx).run P w= .ok (.slice A' m c') w)/\(∀ (w:World) (B:Nat),Rd w B s A n (b.flatMap enc)->Rd w B s A' m (((b.drop l).take m).flatMap enc))/\ ∀ a',A'=some a'-> ∃ a,A=some a/\a.block=a'.block:=by
 subst hm;subst hc;obtain ⟨A',h1,h2,h3⟩:=zO (A:=A) hu hz hb hlk hkn hkq;refine ⟨A',h1,λw B hR=>?_,h3⟩
 replace h2:=h2 w B _ hR
 rw [Po hsz,Pp hsz] at h2;exact h2
end
section
open ChangeShapes WideShapes RowKit
structure Ac where
 kd:Int
 nd:Int
 qu:Int
 at_:Int
 kp:Int
 ek:Int
 ep:Int
 ei:Int
 eb:Int
 eh:Int
 en:Int
def Ac.ints (x:Ac):List Int:=[x.kd,x.nd,x.qu,x.at_,x.kp,x.ek,x.ep,x.ei,x.eb,x.eh,x.en]
def Km (l:List Int):List Value:=l.map (Value.int .i64)
def Ac.cells (x:Ac):List Value:=[iV x.kd,iV x.nd,iV x.qu,iV x.at_,iV x.kp,iV x.ek,iV x.ep,iV x.ei,iV x.eb,iV x.eh,iV x.en]
theorem Ac.acv (x:Ac):x.cells=Km x.ints:=rfl
def Ac.get (x:Ac) (i:Nat):Int:=x.ints.getD i 0
theorem Ac.cell (x:Ac) {i:Nat} (h:i<11):x.cells[i]? =some (iV (x.get i)):=by
 rw [Ac.acv,Km,List.getElem?_map,List.getElem?_eq_getElem (by exact h)];have e:x.get i=x.ints[i]'h:=by simp only [Ac.get,List.getD_eq_getElem?_getD,List.getElem?_eq_getElem (show i<x.ints.length from h),Option.getD_some];rfl
 rw [e];rfl
def bM (kd ek:Int):Option (List (Nat×Int)):=
 if kd=1 then some [(2,3),(1,4)] else if kd=10 then some [(2,3),(1,4)] else if kd=3 then some [(1,4)] else if kd=9 then some [(1,4)]
 else if kd=8 then some [(1,4),(4,100000)] else if kd=4 then some [(3,1048576)] else if kd=5 then some [(3,1048576)] else if kd=6 then some [(3,1048576)]
 else if kd=7 then some [] else if kd=2 then (if ek=1 then some [(1,4),(2,3),(6,3),(7,1073741824),(8,1000000)] else if ek=2 then some [(1,4),(2,3)]
 else if ek=3 then some [(1,4),(2,3),(9,1048576),(10,1073741824)] else none) else none
theorem kinds (kd ek:Int):kd=1\/kd=10\/kd=3\/kd=9\/kd=8\/kd=4\/kd=5\/kd=6\/kd=7\/(kd=2/\ek=1)\/(kd=2/\ek=2)\/(kd=2/\ek=3)\/bM kd ek=none:=by
 by_cases h1:kd=1
 ·simp [h1]
 by_cases h10:kd=10
 ·simp [h10]
 by_cases h3:kd=3
 ·simp [h3]
 by_cases h9:kd=9
 ·simp [h9]
 by_cases h8:kd=8
 ·simp [h8]
 by_cases h4:kd=4
 ·simp [h4]
 by_cases h5:kd=5
 ·simp [h5]
 by_cases h6:kd=6
 ·simp [h6]
 by_cases h7:kd=7
 ·simp [h7]
 by_cases h2:kd=2
 ·by_cases e1:ek=1
  ·simp [h2,e1]
  by_cases e2:ek=2
  ·simp [h2,e2]
  by_cases e3:ek=3
  ·simp [h2,e3]
  simp [bM,h2,e1,e2,e3]
 simp [bM,h2,h1,h10,h3,h9,h8,h4,h5,h6,h7]
theorem M7 {kd ek:Int} {l:List (Nat×Int)} (h:bM kd ek=some l): ∀ p∈l,1<=p.1/\p.1<11/\p.1≠5:=by
 rcases kinds kd ek with rfl | rfl | rfl | rfl | rfl | rfl | rfl | rfl | rfl | ⟨rfl,rfl⟩ | ⟨rfl,rfl⟩ | ⟨rfl,rfl⟩ | hn
 all_goals first | (rw [hn] at h;cases h;done) | (simp [bM] at h;subst h;decide)
theorem acw {kd ek:Int} {l:List (Nat×Int)} (h:bM kd ek=some l):l.length<=5:=by
 rcases kinds kd ek with rfl | rfl | rfl | rfl | rfl | rfl | rfl | rfl | rfl | ⟨rfl,rfl⟩ | ⟨rfl,rfl⟩ | ⟨rfl,rfl⟩ | hn
 all_goals first | (rw [hn] at h;cases h;done) | (simp [bM] at h;subst h;decide)
def Kv (x:Ac) (p:Nat×Int):Bool:=decide (0<=x.get p.1/\x.get p.1<=p.2)
def wW (c:List Int) (l:List (Nat×Int)):List Int:=l.foldl (λc p=>c.set p.1 0) c
def fin (x:Ac) (l:List (Nat×Int)):List Int:=(if x.kd=2 then (wW x.ints l).set 5 0 else wW x.ints l).set 0 0
def zeros:List Int:=[0,0,0,0,0,0,0,0,0,0,0]
def bF (x:Ac):Int:=match bM x.kd x.ek with
 | none=>3
 | some l=>if l.all (Kv x)=true then (if fin x l=zeros then 0 else 3) else 2
def keep (x:Ac):Ac:=
 if x.kd=1 then ⟨x.kd,x.nd,x.qu,0,0,0,0,0,0,0,0⟩ else if x.kd=10 then ⟨x.kd,x.nd,x.qu,0,0,0,0,0,0,0,0⟩ else if x.kd=3 then ⟨x.kd,x.nd,0,0,0,0,0,0,0,0,0⟩ else if x.kd=9 then ⟨x.kd,x.nd,0,0,0,0,0,0,0,0,0⟩
 else if x.kd=8 then ⟨x.kd,x.nd,0,0,x.kp,0,0,0,0,0,0⟩ else if x.kd=4 then ⟨x.kd,0,0,x.at_,0,0,0,0,0,0,0⟩ else if x.kd=5 then ⟨x.kd,0,0,x.at_,0,0,0,0,0,0,0⟩ else if x.kd=6 then ⟨x.kd,0,0,x.at_,0,0,0,0,0,0,0⟩
 else if x.kd=7 then ⟨x.kd,0,0,0,0,0,0,0,0,0,0⟩ else if x.ek=1 then ⟨x.kd,x.nd,x.qu,0,0,x.ek,x.ep,x.ei,x.eb,0,0⟩ else if x.ek=2 then ⟨x.kd,x.nd,x.qu,0,0,x.ek,0,0,0,0,0⟩ else ⟨x.kd,x.nd,x.qu,0,0,x.ek,0,0,0,x.eh,x.en⟩
theorem acy {x:Ac} {l:List (Nat×Int)} (h:bM x.kd x.ek=some l):x.ints=(keep x).ints↔fin x l=zeros:=by
 obtain ⟨kd,nd,qu,at_,kp,ek,ep,ei,eb,eh,en⟩:=x
 rcases kinds kd ek with rfl | rfl | rfl | rfl | rfl | rfl | rfl | rfl | rfl | ⟨rfl,rfl⟩ | ⟨rfl,rfl⟩ | ⟨rfl,rfl⟩ | hn
 all_goals first | (dsimp only at h;rw [hn] at h;cases h) | (simp [bM] at h;subst h;simp [Ac.ints,keep,fin,wW,zeros];try omega)
theorem agv {x y:Ac} (h:x.ints=y.ints):x=y:=by
 obtain ⟨a1,a2,a3,a4,a5,a6,a7,a8,a9,a10,a11⟩:=x;obtain ⟨b1,b2,b3,b4,b5,b6,b7,b8,b9,b10,b11⟩:=y;simpa [Ac.ints] using h
section
variable {x:Ac} {l:List (Nat×Int)}
theorem Wh (h:bM x.kd x.ek=none):bF x=3:=by unfold bF;rw [h]
theorem Io (h:bM x.kd x.ek=some l) (ha: ¬ l.all (Kv x)=true):bF x=2:=by unfold bF;rw [h];exact if_neg ha
theorem M8 (h:bM x.kd x.ek=some l) (ha:l.all (Kv x)=true) (hf: ¬ fin x l=zeros):bF x=3:=by unfold bF;rw [h];simp only [if_pos ha,if_neg hf]
theorem aij (h:bM x.kd x.ek=some l) (ha:l.all (Kv x)=true) (hf:fin x l=zeros):bF x=0:=by unfold bF;rw [h];simp only [if_pos ha,if_pos hf]
theorem acz {k:Nat} {p:Nat×Int} (h:l[k]? =some p) (ha:(l.take k).all (Kv x)=true) (hp:0<=x.get p.1/\x.get p.1<=p.2):(l.take (k+1)).all (Kv x)=true:=by
 rw [List.take_add_one,h,List.all_append,ha];simp [Kv,hp]
theorem Wi {k:Nat} {p:Nat×Int} (h:l[k]? =some p) (hp: ¬ (0<=x.get p.1/\x.get p.1<=p.2)): ¬ l.all (Kv x)=true:=λha=>by
 have:=List.all_eq_true.1 ha p (List.mem_of_getElem? h);simp only [Kv,decide_eq_true_eq] at this;exact hp this
theorem acA {c:List Int} {k:Nat} {p:Nat×Int} (h:l[k]? =some p):(wW c (l.take k)).set p.1 0=wW c (l.take (k+1)):=by
 unfold wW;rw [List.take_add_one,h,List.foldl_append];rfl
theorem wR (c:List Int): ∀ (l:List (Nat×Int)),(wW c l).length=c.length
 | []=>rfl
 | p::l=>by
  show (wW (c.set p.1 0) l).length=_
  rw [wR _ l,List.length_set]
theorem Pq: ∀ (l:List (Nat×Int)) (c:List Int),(∀ p∈l,1<=p.1)->(wW c l)[0]? =c[0]?
 | [],_,_=>rfl
 | p::l,c,h=>by
  show (wW (c.set p.1 0) l)[0]? =_
  rw [Pq l _ λq hq=>h q (List.mem_cons_of_mem _ hq),List.getElem?_set_ne (by have:=h p (List.mem_cons_self ..);omega)]
end
def oF (c:List Int):Array Value:=(Km c).toArray
theorem mq {c:List Int} (h:c.length=11):(oF c).size=11:=by simp [oF,Km,h]
theorem XP {c:List Int} {i:Nat} {v:Int} (h:c[i]? =some v):(oF c)[i]? =some (iV v):=by simp [oF,Km,h]
theorem zP {c:List Int} {i:Nat}:(oF c).setIfInBounds i (iV 0)=oF (c.set i 0):=by
 apply Array.toList_inj.1;simp [oF,Km,Array.toList_setIfInBounds,List.map_set]
theorem agw:flat Tryz.prog 30 69=some (List.replicate 11 (.at_ (.int .i64))):=by kernel_rfl
theorem agx:Es Tryz.prog 30 69=true:=by kernel_rfl
theorem amq (xs:List Value):mkV Tryz.prog 69 xs= .agg xs.toArray:=by
 unfold mkV;rw [Tryz.underlying69]
theorem abh {a b:List Int} (ha:a.length=11) (hb:b.length=11) (w:World):(binOp .neq 69 (.agg (oF a)) (.agg (oF b))).run Tryz.prog w= .ok (.bool (!decide (a=b))) w:=by
 have k1:=wP a;have k2:=wP b;rw [ha] at k1;rw [hb] at k2;have h:=vD (P:=Tryz.prog) w agw agx amq k1 k2;rw [xR (by rw [ha,hb])] at h;exact h
end
end Go.Proofs.YtnhimdkpkmbhlaaGreatDoor
