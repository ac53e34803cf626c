import Derived.Test.YthhnonpehllibaaGreatDoorG10c8a
import Derived.Test.YthhnonpehllibaaGreatDoorG25c21
import Derived.Test.YthhnonpehllibaaGreatDoorGc09c6
set_option maxRecDepth 100000
set_option maxHeartbeats 8000000
set_option linter.unusedSimpArgs false
set_option linter.unusedVariables false
namespace Go.Proofs.YthhnonpehllibaaGreatDoor
section
open ChangeShapes WideShapes ChangeAt RowKit
theorem iW {l:Slots} {x:Operand} {v:Value} (h:ev l x=some v):EvO l (some x) (some v):=h
theorem l8 {l:Slots}:EvO l none none:=trivial
theorem amZ {kd:IntKind} {a b:Int} (h:a=b):some (Value.int kd a)=some (Value.int kd b):=by rw [h]
section
variable {P:Program} {w:World} {t e:TypeId} {A:Option Addr} {n c s B:Nat} {xs:List Value} {kd ke kf:IntKind}
theorem pG {i:Int} (k y:Nat) (code:BoundsCode) (hik:i=k) (hy:k<=y) (w:World):(Instr.sliceBound (.int kd i) y code).run P w= .ok k w:=by
 subst hik;have h1:(0:Int)<=k/\(k:Int)<=y:=by omega
 simp [Instr.sliceBound,asIntOf,Sem.run_bind,Result.andThen,h1,hy]
theorem afP {i:Int} (l:Nat) (hi:i=l) (h:l<=n) (w:World):(Instr.sliceBounds true n c (some (.int kd i)) none none).run P w= .ok (l,n,c) w:=by
 simp [Instr.sliceBounds,Sem.run_bind,Result.andThen,pG l n _ hi h]
theorem awX {i:Int} (k:Nat) (hi:i=k) (h:k<=c) (w:World):(Instr.sliceBounds true n c none (some (.int kd i)) none).run P w= .ok (0,k,c) w:=by
 simp [Instr.sliceBounds,Sem.run_bind,Result.andThen,pG k c _ hi h]
theorem U1 {i j:Int} (l k:Nat) (hi:i=l) (hj:j=k) (hlk:l<=k) (h:k<=c) (w:World):(Instr.sliceBounds true n c (some (.int kd i)) (some (.int ke j)) none).run P w= .ok (l,k,c) w:=by
 simp [Instr.sliceBounds,Sem.run_bind,Result.andThen,pG k c _ hj h,pG l k _ hi hlk]
theorem abO {j m:Int} (k q:Nat) (hj:j=k) (hm:m=q) (hkq:k<=q) (h:q<=c) (w:World):(Instr.sliceBounds true n c none (some (.int ke j)) (some (.int kf m))).run P w= .ok (0,k,q) w:=by
 simp [Instr.sliceBounds,Sem.run_bind,Result.andThen,pG q c _ hm h,pG k q _ hj hkq]
theorem acv {i j m:Int} (l k q:Nat) (hi:i=l) (hj:j=k) (hm:m=q) (hlk:l<=k) (hkq:k<=q) (h:q<=c) (w:World):(Instr.sliceBounds true n c (some (.int kd i)) (some (.int ke j)) (some (.int kf m))).run P w= .ok (l,k,q) w:=by
 simp [Instr.sliceBounds,Sem.run_bind,Result.andThen,pG q c _ hm h,pG k q _ hj hkq,pG l k _ hi hlk]
theorem add_block (a:Addr) (k:Nat):a.block=(a.add k).block:=by
 unfold Addr.add
 split<;>rfl
theorem AB {lo hi mx:Option Value} {l k q:Nat} (hu:P.underlying t=some (.slice e)) (hz:(P.info? e).map (·.size)=some s) (hb: ∀ w,(Instr.sliceBounds true n c lo hi mx).run P w= .ok (l,k,q) w) (hlk:l<=k) (hkn:k<=n) (hkq:k<=q):
  ∃ A',(∀ w,(Instr.sliceAt t (.slice A n c) lo hi mx).run P w= .ok (.slice A' (k-l) (q-l)) w)/\(∀ (w:World) (B:Nat) (xs:List Value),Rd w B s A n xs->Rd w B s A' (k-l) ((xs.drop (l*s)).take ((k-l)*s)))/\ ∀ a',A'=some a'-> ∃ a,A=some a/\a.block=a'.block:=by
 obtain ⟨z,hq,hs⟩: ∃ z,P.info? e=some z/\z.size=s:=by
  cases h:P.info? e with
  | none=>simp [h] at hz
  | some z=>exact ⟨z,rfl,by simpa [h] using hz⟩
 refine ⟨if q=l then A else A.map (·.add (l*s)),λw=>?_,?_,?_⟩
 ·have h1:(sizeOf e).run P w= .ok s w:=by simp [sizeOf,typeInfo,hq,hs,Sem.run_bind,Result.andThen]
  simp [Instr.sliceAt,Instr.slice,run_underlying hu,Sem.run_bind,Result.andThen,hb,h1]
 ·intro w B xs hR;refine ⟨?_,λhn=>?_⟩
  ·rw [List.length_take,List.length_drop,hR.1,<-Nat.sub_mul];exact Nat.min_eq_left (Nat.mul_le_mul_right _ (by omega))
  obtain ⟨b,off,rfl,hb,hcell⟩:=hR.2 (by omega);rw [if_neg (by omega)];refine ⟨b,off+l*s,?_,hb,λj u hu=>?_⟩
  ·simp only [Option.map_some,Option.some.injEq];rw [Go.WideShapes.add_plain]
  rw [Nat.add_assoc];refine hcell _ u ?_;have hj:j< (k-l)*s:=by
   have:=(List.getElem?_eq_some_iff.1 hu).1;rw [List.length_take] at this;omega
  rw [List.getElem?_take_of_lt hj,List.getElem?_drop] at hu;exact hu
 intro a' h
 split at h
 ·exact ⟨a',h,rfl⟩
 cases A with
 | none=>cases h
 | some a=>cases h;exact ⟨a,rfl,add_block a _⟩
theorem Y7 {lo hi mx:Option Value} {l k q:Nat} (hu:P.underlying t=some (.slice e)) (hz:(P.info? e).map (·.size)=some s) (hb: ∀ w,(Instr.sliceBounds true n c lo hi mx).run P w= .ok (l,k,q) w) (hR:Rd w B s A n xs) (hlk:l<=k) (hkn:k<=n) (hkq:k<=q):
  ∃ A',(∀ w,(Instr.sliceAt t (.slice A n c) lo hi mx).run P w= .ok (.slice A' (k-l) (q-l)) w)/\Rd w B s A' (k-l) ((xs.drop (l*s)).take ((k-l)*s))/\ ∀ a',A'=some a'-> ∃ a,A=some a/\a.block=a'.block:=by
 obtain ⟨A',h1,h2,h3⟩:=AB (A:=A) hu hz hb hlk hkn hkq;exact ⟨A',h1,h2 _ _ _ hR,h3⟩
theorem adW {lo hi mx:Option Value} {l k q:Nat} (hu:P.underlying t=some (.slice e)) (hz:(P.info? e).map (·.size)=some s) (hb: ∀ w,(Instr.sliceBounds true n c lo hi mx).run P w= .ok (l,k,q) w) (hR:Rd w B s A n xs) (hlk:l<=k) (hkn:k<=n) (hkq:k<=q):
  ∃ A',(∀ w,(Instr.sliceAt t (.slice A n c) lo hi mx).run P w= .ok (.slice A' (k-l) (q-l)) w)/\Rd w B s A' (k-l) ((xs.drop (l*s)).take ((k-l)*s)):=by
 obtain ⟨A',h1,h2,_⟩:=Y7 hu hz hb hR hlk hkn hkq;exact ⟨A',h1,h2⟩
theorem ajL {x y:Int} {ts:Array TypeId} {ty:TypeId} {cs:Array Bool}:(builtin .min ts ty cs #[.int kd x,.int kd y]).run P w= .ok (.value (.int kd (min x y))) w:=by
 have:(if y<x then y else x)=min x y:=by split<;>omega
 simp [builtin,run_min_int2,Sem.run_bind,Result.andThen,this]
theorem Ui {x y:Nat} {ts:Array TypeId} {ty:TypeId} {cs:Array Bool}:(builtin .min ts ty cs #[.int kd x,.int kd y]).run P w= .ok (.value (.int kd ((min x y:Nat):Int))) w:=by
 rw [ajL,show min (x:Int) (y:Int)=((min x y:Nat):Int) by omega]
theorem Hw {op:BinOp} {xo yo:Operand} {a b:Array Value} {v:Value} (hg:P.eqGuardType P.depth t=false) (h:(binOp op t (.agg a) (.agg b)).run P w= .ok v w):(do eqGuard op t xo yo (.agg a) (.agg b);binOp op t (.agg a) (.agg b):Sem Value).run P w= .ok v w:=by
 have h1:(eqGuard op t xo yo (.agg a) (.agg b)).run P w= .ok () w:=by
  have hp: ∀ w,(program:Sem Program).run P w= .ok P w:=λ_=>rfl;unfold eqGuard
  cases op<;>first | rfl | simp [hp,Sem.run_bind,Result.andThen,hg]
 rw [Sem.run_bind,h1];exact h
theorem Y8 {s t:TypeId} {k:IntKind} {x:Int} (hs:(P.underlying s).isSome=true) (ht:P.underlying t=some (.int k)) {z:Int} (hz:k.wrap x=z):(convert s t (.int kd x)).run P w= .ok (.int k z) w:=by
 obtain ⟨ds,hs⟩:=Option.isSome_iff_exists.1 hs;subst hz;simp [convert,Sem.run_bind,run_underlying hs,run_underlying ht,Result.andThen,Conv.intToInt]
theorem u8_in (a:UInt8):0<=(a.toNat:Int)/\(a.toNat:Int)<=255:=by
 have:=a.toNat_lt;omega
theorem OG {s t:TypeId} {a:UInt8} (hs:P.underlying s=some (.int .u8)) (ht:P.underlying t=some (.int .i64)):(convert s t (.int .u8 (a.toNat:Int))).run P w= .ok (iV (a.toNat:Int)) w:=
 Y8 (by rw [hs];rfl) ht (wrap64_in (by have:=u8_in a;omega) (by have:=u8_in a;omega))
theorem acw {xo yo:Operand} {x z:Int} (hz:x*256=z) (h0:0<=x) (h1:x<=1099511627776):(do eqGuard .shl t xo yo (iV x) (.int .u64 8);binOp .shl t (iV x) (.int .u64 8):Sem Value).run P w= .ok (iV z) w:=by
 subst hz;have:IntKind.i64.wrap (x*256)=x*256:=wrap64_in (by omega) (by omega);simp [binOp,eqGuard_shl,shift_shl_i64,this]
theorem asY {xo yo:Operand} {v x z:Int} (hz:v*256+x=z) (h0:0<=v) (h1:v<=1099511627776) (h2:0<=x) (h3:x<=255):(do eqGuard .or t xo yo (iV (v*256)) (iV x);binOp .or t (iV (v*256)) (iV x):Sem Value).run P w= .ok (iV z) w:=by
 subst hz;have:=or8 v x h0 h1 h2 h3;simp [binOp,eqGuard_or,intBits_or,this]
theorem M7 {b:List UInt8} {lo hi mx:Option Value} {l k q m c':Nat} (hu:P.underlying t=some (.slice e)) (hz:(P.info? e).map (·.size)=some 1) (hb: ∀ w,(Instr.sliceBounds true b.length c lo hi mx).run P w= .ok (l,k,q) w) (hR:Rd w B 1 A b.length (byteCells b))
  (hlk:l<=k) (hkn:k<=b.length) (hkq:k<=q) (hm:k-l=m) (hc:q-l=c'): ∃ A',(∀ w,(Instr.sliceAt t (.slice A b.length c) lo hi mx).run P w= .ok (.slice A' m c') w)/\Rd w B 1 A' m (byteCells ((b.drop l).take m)):=by
 subst hm;subst hc;obtain ⟨A',h1,h2⟩:=adW hu hz hb hR hlk hkn hkq;refine ⟨A',h1,?_⟩;rw [Nat.mul_one,Nat.mul_one] at h2;simpa [byteCells,List.map_drop,List.map_take] using h2
theorem ahn {b:List UInt8} {lo hi mx:Option Value} {l k q m c':Nat} (hu:P.underlying t=some (.slice e)) (hz:(P.info? e).map (·.size)=some 1) (hb: ∀ w,(Instr.sliceBounds true b.length c lo hi mx).run P w= .ok (l,k,q) w)
  (hlk:l<=k) (hkn:k<=b.length) (hkq:k<=q) (hm:k-l=m) (hc:q-l=c'): ∃ A',(∀ w,(Instr.sliceAt t (.slice A b.length c) lo hi mx).run P w= .ok (.slice A' m c') w)/\(∀ (w:World) (B:Nat),Rd w B 1 A b.length (byteCells b)->Rd w B 1 A' m (byteCells ((b.drop l).take m)))/\ ∀ a',A'=some a'-> ∃ a,A=some a/\a.block=a'.block:=by
 subst hm;subst hc;obtain ⟨A',h1,h2,h3⟩:=AB (A:=A) hu hz hb hlk hkn hkq;refine ⟨A',h1,λw B hR=>?_,h3⟩
 replace h2:=h2 w B _ hR
 rw [Nat.mul_one,Nat.mul_one] at h2;simpa [byteCells,List.map_drop,List.map_take] using h2
end
end
section
open ChangeShapes WideShapes RowKit
abbrev fA (s f k:Nat):Prop:= ∀ (b o:Nat) (w:World),(Instr.fieldAt s (.pointer (some ⟨b,o,none⟩)) f).run tP w= .ok (.pointer (some ⟨b,o+k,none⟩)) w
theorem mZ:(tP.info? 3).map (·.size)=some 1:=by kernel_rfl
theorem Ie:(tP.info? 4).map (·.size)=some 1:=by kernel_rfl
theorem U2:(tP.info? 5).map (·.size)=some 1:=by kernel_rfl
theorem asZ:(tP.info? 22).map (·.size)=some 1:=by kernel_rfl
theorem as0:(tP.info? 23).map (·.size)=some 1:=by kernel_rfl
theorem as1:(tP.info? 26).map (·.size)=some 1:=by kernel_rfl
theorem as2:(tP.info? 27).map (·.size)=some 1:=by kernel_rfl
theorem as3:(tP.info? 31).map (·.size)=some 2:=by kernel_rfl
theorem am0:fA 31 0 0:=λ_ _ _=>by kernel_rfl
theorem am1:fA 31 1 1:=λ_ _ _=>by kernel_rfl
theorem iM:(tP.info? 32).map (·.size)=some 2:=by kernel_rfl
theorem am2:fA 32 0 0:=λ_ _ _=>by kernel_rfl
theorem am3:fA 32 1 1:=λ_ _ _=>by kernel_rfl
theorem oN:(tP.info? 35).map (·.size)=some 8:=by kernel_rfl
theorem abP:(tP.info? 36).map (·.size)=some 1:=by kernel_rfl
theorem ajM:(tP.info? 37).map (·.size)=some 1:=by kernel_rfl
theorem ajN:(tP.info? 38).map (·.size)=some 1:=by kernel_rfl
theorem as4:(tP.info? 39).map (·.size)=some 18:=by kernel_rfl
theorem am4:fA 39 0 0:=λ_ _ _=>by kernel_rfl
theorem am5:fA 39 1 1:=λ_ _ _=>by kernel_rfl
theorem am6:fA 39 2 6:=λ_ _ _=>by kernel_rfl
theorem am7:fA 39 3 14:=λ_ _ _=>by kernel_rfl
theorem am8:fA 39 4 15:=λ_ _ _=>by kernel_rfl
theorem tV:(tP.info? 40).map (·.size)=some 18:=by kernel_rfl
theorem am9:(tP.info? 40).map (λi=>(i.zero,i.size,i.bytes))=some (some (.agg #[iV 0,.bool false,.bool false,.bool false,.bool false,.bool false,iV 0,iV 0,iV 0,iV 0,iV 0,iV 0,iV 0,iV 0,.slice none 0 0,.slice none 0 0,.slice none 0 0,iV 0]),18,160):=by kernel_rfl
theorem ana:fA 40 0 0:=λ_ _ _=>by kernel_rfl
theorem anb:fA 40 1 1:=λ_ _ _=>by kernel_rfl
theorem anc:fA 40 2 6:=λ_ _ _=>by kernel_rfl
theorem ane:fA 40 3 14:=λ_ _ _=>by kernel_rfl
theorem anf:fA 40 4 15:=λ_ _ _=>by kernel_rfl
theorem ang:fA 40 5 16:=λ_ _ _=>by kernel_rfl
theorem anh:fA 40 6 17:=λ_ _ _=>by kernel_rfl
theorem as5:(tP.info? 48).map (·.size)=some 1:=by kernel_rfl
theorem wS:(tP.info? 41).map (·.size)=some 1:=by kernel_rfl
theorem aB:(tP.info? 43).map (·.size)=some 6:=by kernel_rfl
theorem ani:(tP.info? 43).map (λi=>(i.zero,i.size,i.bytes))=some (some (.agg #[iV 0,iV 0,iV 0,iV 0,iV 0,.slice none 0 0]),6,64):=by kernel_rfl
theorem M8:fA 43 0 0:=λ_ _ _=>by kernel_rfl
theorem anj:fA 43 1 1:=λ_ _ _=>by kernel_rfl
theorem ank:fA 43 2 2:=λ_ _ _=>by kernel_rfl
theorem anl:fA 43 3 3:=λ_ _ _=>by kernel_rfl
theorem anm:fA 43 4 4:=λ_ _ _=>by kernel_rfl
theorem acy:fA 43 5 5:=λ_ _ _=>by kernel_rfl
theorem tX:(tP.info? 44).map (·.size)=some 1:=by kernel_rfl
theorem acz:(tP.info? 44).map (λi=>(i.zero,i.size,i.bytes))=some (some (.slice none 0 0),1,24):=by kernel_rfl
theorem PE:(tP.info? 162).map (·.size)=some 1:=by kernel_rfl
theorem PG:(tP.info? 163).map (·.size)=some 1:=by kernel_rfl
theorem EL:(tP.info? 166).map (·.size)=some 9:=by kernel_rfl
theorem ajO:(tP.info? 167).map (·.size)=some 36:=by kernel_rfl
theorem jP:(tP.info? 169).map (·.size)=some 41:=by kernel_rfl
theorem ano:fA 169 0 0:=λ_ _ _=>by kernel_rfl
theorem anp:fA 169 1 1:=λ_ _ _=>by kernel_rfl
theorem anq:fA 169 2 2:=λ_ _ _=>by kernel_rfl
theorem anr:fA 169 3 3:=λ_ _ _=>by kernel_rfl
theorem ant:fA 169 4 4:=λ_ _ _=>by kernel_rfl
theorem anu:fA 169 5 5:=λ_ _ _=>by kernel_rfl
theorem U3:(tP.info? 51).map (·.size)=some 2:=by kernel_rfl
theorem anv:fA 51 0 0:=λ_ _ _=>by kernel_rfl
theorem anw:fA 51 1 1:=λ_ _ _=>by kernel_rfl
theorem iE:(tP.info? 53).map (·.size)=some 6:=by kernel_rfl
theorem pY:(tP.info? 53).map (λi=>(i.zero,i.size,i.bytes))=some (some (.agg #[iV 0,iV 0,iV 0,iV 0,iV 0,iV 0]),6,48):=by kernel_rfl
theorem anx:fA 53 0 0:=λ_ _ _=>by kernel_rfl
theorem anz:fA 53 1 1:=λ_ _ _=>by kernel_rfl
theorem anA:fA 53 2 2:=λ_ _ _=>by kernel_rfl
theorem anB:fA 53 3 3:=λ_ _ _=>by kernel_rfl
theorem anC:fA 53 4 4:=λ_ _ _=>by kernel_rfl
theorem jY:(tP.info? 57).map (·.size)=some 11:=by kernel_rfl
theorem anD:(tP.info? 57).map (λi=>(i.zero,i.size,i.bytes))=some (some (.agg #[iV 0,iV 0,iV 0,iV 0,iV 0,iV 0,iV 0,iV 0,iV 0,iV 0,iV 0]),11,88):=by kernel_rfl
theorem anE:fA 57 0 0:=λ_ _ _=>by kernel_rfl
theorem anF:fA 57 1 1:=λ_ _ _=>by kernel_rfl
theorem anG:fA 57 2 2:=λ_ _ _=>by kernel_rfl
theorem anH:fA 57 3 3:=λ_ _ _=>by kernel_rfl
theorem anI:fA 57 4 4:=λ_ _ _=>by kernel_rfl
theorem anJ:fA 57 5 5:=λ_ _ _=>by kernel_rfl
theorem dw:(tP.info? 101).map (·.size)=some 4:=by kernel_rfl
theorem anK:(tP.info? 101).map (λi=>(i.zero,i.size,i.bytes))=some (some (.agg #[iV 0,iV 0,iV 0,iV 0]),4,32):=by kernel_rfl
theorem as6:(tP.info? 102).map (·.size)=some 7:=by kernel_rfl
theorem anL:fA 102 0 0:=λ_ _ _=>by kernel_rfl
theorem anM:fA 102 1 1:=λ_ _ _=>by kernel_rfl
theorem abQ:(tP.info? 103).map (·.size)=some 7:=by kernel_rfl
theorem anN:(tP.info? 103).map (λi=>(i.zero,i.size,i.bytes))=some (some (.agg #[iV 0,iV 0,iV 0,iV 0,iV 0,iV 0,iV 0]),7,56):=by kernel_rfl
theorem anO:fA 103 2 5:=λ_ _ _=>by kernel_rfl
theorem anP:(tP.info? 150).map (λi=>(i.zero,i.size,i.bytes))=some (some (.agg #[iV 0,iV 0,iV 0,iV 0,iV 0,iV 0,iV 0,iV 0,iV 0,iV 0,iV 0,iV 0,iV 0,iV 0]),14,112):=by kernel_rfl
theorem EM:(tP.info? 209).map (·.size)=some 2:=by kernel_rfl
theorem Uj:(tP.info? 209).map (λi=>(i.zero,i.size,i.bytes))=some (some (.agg #[iV 0,iV 0]),2,16):=by kernel_rfl
theorem anQ:fA 209 0 0:=λ_ _ _=>by kernel_rfl
theorem anR:fA 209 1 1:=λ_ _ _=>by kernel_rfl
theorem Hy:(tP.info? 212).map (·.size)=some 4:=by kernel_rfl
theorem acA:(tP.info? 212).map (λi=>(i.zero,i.size,i.bytes))=some (some (.agg #[iV 0,iV 0,iV 0,iV 0]),4,32):=by kernel_rfl
theorem anS:fA 212 0 0:=λ_ _ _=>by kernel_rfl
theorem anT:fA 212 1 2:=λ_ _ _=>by kernel_rfl
theorem as7:(tP.info? 46).map (·.size)=some 2:=by kernel_rfl
theorem anU:(tP.info? 59).map (·.size)=some 5:=by kernel_rfl
theorem aho:fA 59 0 0:=λ_ _ _=>by kernel_rfl
theorem ahp:fA 59 1 1:=λ_ _ _=>by kernel_rfl
theorem ahq:fA 59 2 2:=λ_ _ _=>by kernel_rfl
theorem ahr:fA 59 3 3:=λ_ _ _=>by kernel_rfl
theorem ahs:fA 59 4 4:=λ_ _ _=>by kernel_rfl
theorem Ul:(tP.info? 60).map (·.size)=some 5:=by kernel_rfl
theorem XO:fA 60 0 0:=λ_ _ _=>by kernel_rfl
theorem OH:fA 60 1 1:=λ_ _ _=>by kernel_rfl
theorem XP:fA 60 2 2:=λ_ _ _=>by kernel_rfl
theorem Af:fA 60 3 3:=λ_ _ _=>by kernel_rfl
theorem OI:fA 60 4 4:=λ_ _ _=>by kernel_rfl
theorem EN:(tP.info? 72).map (·.size)=some 1:=by kernel_rfl
theorem BJ:(tP.info? 73).map (·.size)=some 1:=by kernel_rfl
theorem zh:(tP.info? 75).map (·.size)=some 2:=by kernel_rfl
theorem aht:fA 75 0 0:=λ_ _ _=>by kernel_rfl
theorem ahu:fA 75 1 1:=λ_ _ _=>by kernel_rfl
theorem M9:(tP.info? 76).map (·.size)=some 8:=by kernel_rfl
theorem ahv:fA 79 0 0:=λ_ _ _=>by kernel_rfl
theorem ahw:fA 79 1 1:=λ_ _ _=>by kernel_rfl
theorem ahx:fA 79 2 9:=λ_ _ _=>by kernel_rfl
theorem ahy:fA 79 3 10:=λ_ _ _=>by kernel_rfl
theorem ahz:fA 79 4 50:=λ_ _ _=>by kernel_rfl
theorem acB:(tP.info? 80).map (·.size)=some 1:=by kernel_rfl
theorem Dn:(tP.info? 80).map (λi=>(i.zero,i.size,i.bytes))=some (some (.pointer none),1,8):=by kernel_rfl
theorem fB:(tP.info? 83).map (·.size)=some 2:=by kernel_rfl
theorem XQ:fA 83 0 0:=λ_ _ _=>by kernel_rfl
theorem ahA:fA 83 1 1:=λ_ _ _=>by kernel_rfl
theorem acC:(tP.info? 84).map (·.size)=some 4:=by kernel_rfl
theorem p8:(tP.info? 85).map (·.size)=some 1:=by kernel_rfl
theorem acD:(tP.info? 87).map (·.size)=some 20:=by kernel_rfl
theorem ahB:fA 87 0 0:=λ_ _ _=>by kernel_rfl
theorem ahC:fA 87 1 1:=λ_ _ _=>by kernel_rfl
theorem ahD:fA 87 2 2:=λ_ _ _=>by kernel_rfl
theorem ahE:fA 87 3 4:=λ_ _ _=>by kernel_rfl
theorem ahF:fA 87 4 5:=λ_ _ _=>by kernel_rfl
theorem ahG:fA 87 5 13:=λ_ _ _=>by kernel_rfl
theorem ahH:fA 87 6 17:=λ_ _ _=>by kernel_rfl
theorem ahI:fA 87 7 18:=λ_ _ _=>by kernel_rfl
theorem ahJ:fA 87 8 19:=λ_ _ _=>by kernel_rfl
theorem acE:(tP.info? 146).map (·.size)=some 1:=by kernel_rfl
theorem anV:(tP.info? 185).map (·.size)=some 42:=by kernel_rfl
theorem ahK:fA 185 0 0:=λ_ _ _=>by kernel_rfl
theorem ahL:fA 185 1 41:=λ_ _ _=>by kernel_rfl
theorem anW:(tP.info? 205).map (·.size)=some 41:=by kernel_rfl
theorem ahM:fA 205 0 0:=λ_ _ _=>by kernel_rfl
theorem ahN:fA 206 0 0:=λ_ _ _=>by kernel_rfl
theorem acF:(tP.info? 67).map (·.size)=some 4:=by kernel_rfl
theorem XR:fA 67 0 0:=λ_ _ _=>by kernel_rfl
theorem Ag:fA 67 1 1:=λ_ _ _=>by kernel_rfl
theorem Ah:fA 67 2 2:=λ_ _ _=>by kernel_rfl
theorem Ig:fA 67 3 3:=λ_ _ _=>by kernel_rfl
theorem anX:(tP.info? 94).map (·.size)=some 1:=by kernel_rfl
theorem tC:(tP.info? 96).map (·.size)=some 2:=by kernel_rfl
theorem ahO:fA 96 0 0:=λ_ _ _=>by kernel_rfl
theorem ahP:fA 96 1 1:=λ_ _ _=>by kernel_rfl
theorem xA:(tP.info? 105).map (·.size)=some 23:=by kernel_rfl
theorem XT:(tP.info? 105).map (λi=>(i.zero,i.size,i.bytes))=some (some (.agg #[iV 0,iV 0,iV 0,iV 0,iV 0,iV 0,iV 0,iV 0,iV 0,iV 0,iV 0,iV 0,iV 0,.slice none 0 0,.bool false,iV 0,iV 0,iV 0,iV 0,iV 0,iV 0,iV 0,iV 0]),23,200):=by kernel_rfl
theorem ahQ:fA 105 0 0:=λ_ _ _=>by kernel_rfl
theorem ahR:fA 105 1 1:=λ_ _ _=>by kernel_rfl
theorem ahS:fA 105 2 2:=λ_ _ _=>by kernel_rfl
theorem ahT:fA 105 3 3:=λ_ _ _=>by kernel_rfl
theorem ahU:fA 105 4 4:=λ_ _ _=>by kernel_rfl
theorem ahV:fA 105 5 5:=λ_ _ _=>by kernel_rfl
theorem ahW:fA 105 6 6:=λ_ _ _=>by kernel_rfl
theorem ahX:fA 105 7 7:=λ_ _ _=>by kernel_rfl
theorem ahY:fA 105 8 13:=λ_ _ _=>by kernel_rfl
theorem ahZ:fA 105 9 14:=λ_ _ _=>by kernel_rfl
theorem adX:fA 105 10 15:=λ_ _ _=>by kernel_rfl
theorem adY:fA 105 11 16:=λ_ _ _=>by kernel_rfl
theorem jZ:(tP.info? 124).map (·.size)=some 10:=by kernel_rfl
theorem OJ:(tP.info? 124).map (λi=>(i.zero,i.size,i.bytes))=some (some (.agg #[iV 0,iV 0,iV 0,iV 0,iV 0,iV 0,iV 0,iV 0,iV 0,iV 0]),10,80):=by kernel_rfl
theorem ah0:fA 124 0 0:=λ_ _ _=>by kernel_rfl
theorem ah1:fA 124 1 1:=λ_ _ _=>by kernel_rfl
theorem ah2:fA 124 2 2:=λ_ _ _=>by kernel_rfl
theorem ah3:fA 124 3 3:=λ_ _ _=>by kernel_rfl
theorem ah4:fA 124 4 4:=λ_ _ _=>by kernel_rfl
theorem acG:(tP.info? 176).map (·.size)=some 1:=by kernel_rfl
theorem ak6 (args:Array Value) (w:World):(callFunc 7 args).run tP w= .ok (.enter 7 args) w:=av Tryz.func7 (by kernel_rfl) rfl args w
theorem ak7 (args:Array Value) (w:World):(callFunc 8 args).run tP w= .ok (.enter 8 args) w:=av Tryz.func8 (by kernel_rfl) rfl args w
theorem BS (args:Array Value) (w:World):(callFunc 10 args).run tP w= .ok (.enter 10 args) w:=av Tryz.func10 (by kernel_rfl) rfl args w
theorem awY (args:Array Value) (w:World):(callFunc 12 args).run tP w= .ok (.enter 12 args) w:=av Tryz.func12 (by kernel_rfl) rfl args w
theorem awZ (args:Array Value) (w:World):(callFunc 14 args).run tP w= .ok (.enter 14 args) w:=av Tryz.func14 (by kernel_rfl) rfl args w
theorem apF (args:Array Value) (w:World):(callFunc 78 args).run tP w= .ok (.enter 78 args) w:=av Tryz.func78 (by kernel_rfl) rfl args w
theorem Qz (args:Array Value) (w:World):(callFunc 15 args).run tP w= .ok (.enter 15 args) w:=av Tryz.func15 (by kernel_rfl) rfl args w
theorem U4 (args:Array Value) (w:World):(callFunc 106 args).run tP w= .ok (.enter 106 args) w:=av Tryz.func106 (by kernel_rfl) rfl args w
theorem afQ (args:Array Value) (w:World):(callFunc 11 args).run tP w= .ok (.enter 11 args) w:=av Tryz.func11 (by kernel_rfl) rfl args w
theorem aw0 (args:Array Value) (w:World):(callFunc 13 args).run tP w= .ok (.enter 13 args) w:=av Tryz.func13 (by kernel_rfl) rfl args w
theorem aw1 (args:Array Value) (w:World):(callFunc 17 args).run tP w= .ok (.enter 17 args) w:=av Tryz.func17 (by kernel_rfl) rfl args w
theorem aw2 (args:Array Value) (w:World):(callFunc 18 args).run tP w= .ok (.enter 18 args) w:=av Tryz.func18 (by kernel_rfl) rfl args w
theorem aw3 (args:Array Value) (w:World):(callFunc 19 args).run tP w= .ok (.enter 19 args) w:=av Tryz.func19 (by kernel_rfl) rfl args w
theorem apG (args:Array Value) (w:World):(callFunc 20 args).run tP w= .ok (.enter 20 args) w:=av Tryz.func20 (by kernel_rfl) rfl args w
theorem afR (args:Array Value) (w:World):(callFunc 95 args).run tP w= .ok (.enter 95 args) w:=av Tryz.func95 (by kernel_rfl) rfl args w
theorem zx (args:Array Value) (w:World):(callFunc 21 args).run tP w= .ok (.enter 21 args) w:=av Tryz.func21 (by kernel_rfl) rfl args w
theorem aw4 (args:Array Value) (w:World):(callFunc 113 args).run tP w= .ok (.enter 113 args) w:=av Tryz.func113 (by kernel_rfl) rfl args w
theorem apH (args:Array Value) (w:World):(callFunc 73 args).run tP w= .ok (.enter 73 args) w:=av Tryz.func73 (by kernel_rfl) rfl args w
theorem aw5 (args:Array Value) (w:World):(callFunc 114 args).run tP w= .ok (.enter 114 args) w:=av Tryz.func114 (by kernel_rfl) rfl args w
theorem aw6 (args:Array Value) (w:World):(callFunc 115 args).run tP w= .ok (.enter 115 args) w:=av Tryz.func115 (by kernel_rfl) rfl args w
theorem aw7 (args:Array Value) (w:World):(callFunc 116 args).run tP w= .ok (.enter 116 args) w:=av Tryz.func116 (by kernel_rfl) rfl args w
theorem aw8 (args:Array Value) (w:World):(callFunc 117 args).run tP w= .ok (.enter 117 args) w:=av Tryz.func117 (by kernel_rfl) rfl args w
theorem aw9 (args:Array Value) (w:World):(callFunc 118 args).run tP w= .ok (.enter 118 args) w:=av Tryz.func118 (by kernel_rfl) rfl args w
theorem axa (args:Array Value) (w:World):(callFunc 119 args).run tP w= .ok (.enter 119 args) w:=av Tryz.func119 (by kernel_rfl) rfl args w
theorem axb (args:Array Value) (w:World):(callFunc 16 args).run tP w= .ok (.enter 16 args) w:=av Tryz.func16 (by kernel_rfl) rfl args w
theorem apI (args:Array Value) (w:World):(callFunc 23 args).run tP w= .ok (.enter 23 args) w:=av Tryz.func23 (by kernel_rfl) rfl args w
theorem axc (args:Array Value) (w:World):(callFunc 24 args).run tP w= .ok (.enter 24 args) w:=av Tryz.func24 (by kernel_rfl) rfl args w
theorem QA (args:Array Value) (w:World):(callFunc 25 args).run tP w= .ok (.enter 25 args) w:=av Tryz.func25 (by kernel_rfl) rfl args w
theorem axd (args:Array Value) (w:World):(callFunc 26 args).run tP w= .ok (.enter 26 args) w:=av Tryz.func26 (by kernel_rfl) rfl args w
theorem xX (args:Array Value) (w:World):(callFunc 27 args).run tP w= .ok (.enter 27 args) w:=av Tryz.func27 (by kernel_rfl) rfl args w
theorem axe (args:Array Value) (w:World):(callFunc 28 args).run tP w= .ok (.enter 28 args) w:=av Tryz.func28 (by kernel_rfl) rfl args w
theorem ak8 (args:Array Value) (w:World):(callFunc 29 args).run tP w= .ok (.enter 29 args) w:=av Tryz.func29 (by kernel_rfl) rfl args w
theorem ak9 (args:Array Value) (w:World):(callFunc 30 args).run tP w= .ok (.enter 30 args) w:=av Tryz.func30 (by kernel_rfl) rfl args w
theorem axf (args:Array Value) (w:World):(callFunc 31 args).run tP w= .ok (.enter 31 args) w:=av Tryz.func31 (by kernel_rfl) rfl args w
theorem axg (args:Array Value) (w:World):(callFunc 32 args).run tP w= .ok (.enter 32 args) w:=av Tryz.func32 (by kernel_rfl) rfl args w
theorem axh (args:Array Value) (w:World):(callFunc 33 args).run tP w= .ok (.enter 33 args) w:=av Tryz.func33 (by kernel_rfl) rfl args w
theorem axi (args:Array Value) (w:World):(callFunc 34 args).run tP w= .ok (.enter 34 args) w:=av Tryz.func34 (by kernel_rfl) rfl args w
theorem ala (args:Array Value) (w:World):(callFunc 35 args).run tP w= .ok (.enter 35 args) w:=av Tryz.func35 (by kernel_rfl) rfl args w
theorem axj (args:Array Value) (w:World):(callFunc 36 args).run tP w= .ok (.enter 36 args) w:=av Tryz.func36 (by kernel_rfl) rfl args w
theorem apJ (args:Array Value) (w:World):(callFunc 109 args).run tP w= .ok (.enter 109 args) w:=av Tryz.func109 (by kernel_rfl) rfl args w
theorem axk (args:Array Value) (w:World):(callFunc 120 args).run tP w= .ok (.enter 120 args) w:=av Tryz.func120 (by kernel_rfl) rfl args w
theorem apK (args:Array Value) (w:World):(callFunc 121 args).run tP w= .ok (.enter 121 args) w:=av Tryz.func121 (by kernel_rfl) rfl args w
theorem apL (args:Array Value) (w:World):(callFunc 122 args).run tP w= .ok (.enter 122 args) w:=av Tryz.func122 (by kernel_rfl) rfl args w
theorem apM (args:Array Value) (w:World):(callFunc 123 args).run tP w= .ok (.enter 123 args) w:=av Tryz.func123 (by kernel_rfl) rfl args w
theorem apN (args:Array Value) (w:World):(callFunc 124 args).run tP w= .ok (.enter 124 args) w:=av Tryz.func124 (by kernel_rfl) rfl args w
theorem axl (args:Array Value) (w:World):(callFunc 125 args).run tP w= .ok (.enter 125 args) w:=av Tryz.func125 (by kernel_rfl) rfl args w
theorem axn (args:Array Value) (w:World):(callFunc 126 args).run tP w= .ok (.enter 126 args) w:=av Tryz.func126 (by kernel_rfl) rfl args w
theorem axo (args:Array Value) (w:World):(callFunc 127 args).run tP w= .ok (.enter 127 args) w:=av Tryz.func127 (by kernel_rfl) rfl args w
theorem axp (args:Array Value) (w:World):(callFunc 22 args).run tP w= .ok (.enter 22 args) w:=av Tryz.func22 (by kernel_rfl) rfl args w
theorem apO (args:Array Value) (w:World):(callFunc 37 args).run tP w= .ok (.enter 37 args) w:=av Tryz.func37 (by kernel_rfl) rfl args w
theorem apP (args:Array Value) (w:World):(callFunc 38 args).run tP w= .ok (.enter 38 args) w:=av Tryz.func38 (by kernel_rfl) rfl args w
theorem FT (args:Array Value) (w:World):(callFunc 39 args).run tP w= .ok (.enter 39 args) w:=av Tryz.func39 (by kernel_rfl) rfl args w
theorem Ih (args:Array Value) (w:World):(callFunc 40 args).run tP w= .ok (.enter 40 args) w:=av Tryz.func40 (by kernel_rfl) rfl args w
theorem QB (args:Array Value) (w:World):(callFunc 41 args).run tP w= .ok (.enter 41 args) w:=av Tryz.func41 (by kernel_rfl) rfl args w
theorem Y9 (args:Array Value) (w:World):(callFunc 42 args).run tP w= .ok (.enter 42 args) w:=av Tryz.func42 (by kernel_rfl) rfl args w
theorem as8 (args:Array Value) (w:World):(callFunc 43 args).run tP w= .ok (.enter 43 args) w:=av Tryz.func43 (by kernel_rfl) rfl args w
theorem as9 (args:Array Value) (w:World):(callFunc 44 args).run tP w= .ok (.enter 44 args) w:=av Tryz.func44 (by kernel_rfl) rfl args w
theorem ajP (args:Array Value) (w:World):(callFunc 45 args).run tP w= .ok (.enter 45 args) w:=av Tryz.func45 (by kernel_rfl) rfl args w
theorem yO (args:Array Value) (w:World):(callFunc 46 args).run tP w= .ok (.enter 46 args) w:=av Tryz.func46 (by kernel_rfl) rfl args w
theorem abR (args:Array Value) (w:World):(callFunc 47 args).run tP w= .ok (.enter 47 args) w:=av Tryz.func47 (by kernel_rfl) rfl args w
theorem ata (args:Array Value) (w:World):(callFunc 48 args).run tP w= .ok (.enter 48 args) w:=av Tryz.func48 (by kernel_rfl) rfl args w
theorem atb (args:Array Value) (w:World):(callFunc 49 args).run tP w= .ok (.enter 49 args) w:=av Tryz.func49 (by kernel_rfl) rfl args w
theorem atc (args:Array Value) (w:World):(callFunc 50 args).run tP w= .ok (.enter 50 args) w:=av Tryz.func50 (by kernel_rfl) rfl args w
theorem Hz (args:Array Value) (w:World):(callFunc 51 args).run tP w= .ok (.enter 51 args) w:=av Tryz.func51 (by kernel_rfl) rfl args w
theorem atd (args:Array Value) (w:World):(callFunc 52 args).run tP w= .ok (.enter 52 args) w:=av Tryz.func52 (by kernel_rfl) rfl args w
theorem ate (args:Array Value) (w:World):(callFunc 53 args).run tP w= .ok (.enter 53 args) w:=av Tryz.func53 (by kernel_rfl) rfl args w
theorem LG (args:Array Value) (w:World):(callFunc 54 args).run tP w= .ok (.enter 54 args) w:=av Tryz.func54 (by kernel_rfl) rfl args w
theorem ajQ (args:Array Value) (w:World):(callFunc 55 args).run tP w= .ok (.enter 55 args) w:=av Tryz.func55 (by kernel_rfl) rfl args w
theorem oO (args:Array Value) (w:World):(callFunc 57 args).run tP w= .ok (.enter 57 args) w:=av Tryz.func57 (by kernel_rfl) rfl args w
theorem ajR (args:Array Value) (w:World):(callFunc 58 args).run tP w= .ok (.enter 58 args) w:=av Tryz.func58 (by kernel_rfl) rfl args w
theorem atf (args:Array Value) (w:World):(callFunc 59 args).run tP w= .ok (.enter 59 args) w:=av Tryz.func59 (by kernel_rfl) rfl args w
theorem atg (args:Array Value) (w:World):(callFunc 60 args).run tP w= .ok (.enter 60 args) w:=av Tryz.func60 (by kernel_rfl) rfl args w
theorem ath (args:Array Value) (w:World):(callFunc 61 args).run tP w= .ok (.enter 61 args) w:=av Tryz.func61 (by kernel_rfl) rfl args w
theorem ati (args:Array Value) (w:World):(callFunc 62 args).run tP w= .ok (.enter 62 args) w:=av Tryz.func62 (by kernel_rfl) rfl args w
theorem atj (args:Array Value) (w:World):(callFunc 63 args).run tP w= .ok (.enter 63 args) w:=av Tryz.func63 (by kernel_rfl) rfl args w
theorem U5 (args:Array Value) (w:World):(callFunc 65 args).run tP w= .ok (.enter 65 args) w:=av Tryz.func65 (by kernel_rfl) rfl args w
theorem qR (args:Array Value) (w:World):(callFunc 66 args).run tP w= .ok (.enter 66 args) w:=av Tryz.func66 (by kernel_rfl) rfl args w
theorem atl (args:Array Value) (w:World):(callFunc 67 args).run tP w= .ok (.enter 67 args) w:=av Tryz.func67 (by kernel_rfl) rfl args w
theorem Ai (args:Array Value) (w:World):(callFunc 68 args).run tP w= .ok (.enter 68 args) w:=av Tryz.func68 (by kernel_rfl) rfl args w
theorem atm (args:Array Value) (w:World):(callFunc 69 args).run tP w= .ok (.enter 69 args) w:=av Tryz.func69 (by kernel_rfl) rfl args w
theorem atn (args:Array Value) (w:World):(callFunc 70 args).run tP w= .ok (.enter 70 args) w:=av Tryz.func70 (by kernel_rfl) rfl args w
theorem U7 (args:Array Value) (w:World):(callFunc 74 args).run tP w= .ok (.enter 74 args) w:=av Tryz.func74 (by kernel_rfl) rfl args w
theorem EO (args:Array Value) (w:World):(callFunc 75 args).run tP w= .ok (.enter 75 args) w:=av Tryz.func75 (by kernel_rfl) rfl args w
theorem ajS (args:Array Value) (w:World):(callFunc 77 args).run tP w= .ok (.enter 77 args) w:=av Tryz.func77 (by kernel_rfl) rfl args w
theorem PI (args:Array Value) (w:World):(callFunc 81 args).run tP w= .ok (.enter 81 args) w:=av Tryz.func81 (by kernel_rfl) rfl args w
theorem abS (args:Array Value) (w:World):(callFunc 82 args).run tP w= .ok (.enter 82 args) w:=av Tryz.func82 (by kernel_rfl) rfl args w
theorem ato (args:Array Value) (w:World):(callFunc 83 args).run tP w= .ok (.enter 83 args) w:=av Tryz.func83 (by kernel_rfl) rfl args w
theorem abT (args:Array Value) (w:World):(callFunc 84 args).run tP w= .ok (.enter 84 args) w:=av Tryz.func84 (by kernel_rfl) rfl args w
theorem U8 (args:Array Value) (w:World):(callFunc 85 args).run tP w= .ok (.enter 85 args) w:=av Tryz.func85 (by kernel_rfl) rfl args w
theorem atp (args:Array Value) (w:World):(callFunc 86 args).run tP w= .ok (.enter 86 args) w:=av Tryz.func86 (by kernel_rfl) rfl args w
theorem atq (args:Array Value) (w:World):(callFunc 87 args).run tP w= .ok (.enter 87 args) w:=av Tryz.func87 (by kernel_rfl) rfl args w
theorem ajT (args:Array Value) (w:World):(callFunc 88 args).run tP w= .ok (.enter 88 args) w:=av Tryz.func88 (by kernel_rfl) rfl args w
theorem atr (args:Array Value) (w:World):(callFunc 89 args).run tP w= .ok (.enter 89 args) w:=av Tryz.func89 (by kernel_rfl) rfl args w
theorem ajU (args:Array Value) (w:World):(callFunc 90 args).run tP w= .ok (.enter 90 args) w:=av Tryz.func90 (by kernel_rfl) rfl args w
theorem att (args:Array Value) (w:World):(callFunc 91 args).run tP w= .ok (.enter 91 args) w:=av Tryz.func91 (by kernel_rfl) rfl args w
theorem ajV (args:Array Value) (w:World):(callFunc 92 args).run tP w= .ok (.enter 92 args) w:=av Tryz.func92 (by kernel_rfl) rfl args w
theorem atu (args:Array Value) (w:World):(callFunc 93 args).run tP w= .ok (.enter 93 args) w:=av Tryz.func93 (by kernel_rfl) rfl args w
theorem HY (args:Array Value) (w:World):(callFunc 94 args).run tP w= .ok (.enter 94 args) w:=av Tryz.func94 (by kernel_rfl) rfl args w
theorem Va (args:Array Value) (w:World):(callFunc 98 args).run tP w= .ok (.enter 98 args) w:=av Tryz.func98 (by kernel_rfl) rfl args w
theorem PK (args:Array Value) (w:World):(callFunc 99 args).run tP w= .ok (.enter 99 args) w:=av Tryz.func99 (by kernel_rfl) rfl args w
theorem atv (args:Array Value) (w:World):(callFunc 100 args).run tP w= .ok (.enter 100 args) w:=av Tryz.func100 (by kernel_rfl) rfl args w
theorem atw (args:Array Value) (w:World):(callFunc 101 args).run tP w= .ok (.enter 101 args) w:=av Tryz.func101 (by kernel_rfl) rfl args w
theorem Vb (args:Array Value) (w:World):(callFunc 102 args).run tP w= .ok (.enter 102 args) w:=av Tryz.func102 (by kernel_rfl) rfl args w
theorem atx (args:Array Value) (w:World):(callFunc 103 args).run tP w= .ok (.enter 103 args) w:=av Tryz.func103 (by kernel_rfl) rfl args w
theorem aty (args:Array Value) (w:World):(callFunc 104 args).run tP w= .ok (.enter 104 args) w:=av Tryz.func104 (by kernel_rfl) rfl args w
theorem atz (args:Array Value) (w:World):(callFunc 107 args).run tP w= .ok (.enter 107 args) w:=av Tryz.func107 (by kernel_rfl) rfl args w
theorem ajW (args:Array Value) (w:World):(callFunc 108 args).run tP w= .ok (.enter 108 args) w:=av Tryz.func108 (by kernel_rfl) rfl args w
theorem wT (args:Array Value) (w:World):(callFunc 111 args).run tP w= .ok (.enter 111 args) w:=av Tryz.func111 (by kernel_rfl) rfl args w
theorem mixed:tP.follows .mixedOrders=true:=by kernel_rfl
end
section
open ChangeShapes WideShapes ChangeAt RowKit
section
variable {P:Program} {N:Nat} {l:Slots} {o:Oper} {w w' w0:World} {B:Nat} {fs:List Fact}
theorem XU {f:FuncId} {first cap us:List Value} {x:Operand} {xs:List Operand} {ts:Array TypeId} {vs:List Value} (ho:o.op= .call { callee:= .value x,args:=xs.toArray,argTypes:=ts }) (hv:ev l x=some (.func (.func f) first.toArray cap.toArray))
  (LZ: ∀ args w,(callFunc f args).run P w= .ok (.enter f args) w) (hx:Pt l xs vs) (hu:first++vs++cap=us):Enter P N l o w f us:=λa F=>by
 subst hu;have h1:=F.evs hx;unfold execOp;simp only [ho,resolve,F.ev hv,Deferred.ofValue,invoke,Sem.run_bind,Sem.run_pure,Result.andThen_ok,List.map_toArray,h1];simp [LZ]
theorem Kr {f:Fn} {xs ys:List Operand} {vs us:List Value} (ho:o.op= .makeFunc f xs.toArray ys.toArray) (hx:Pt l xs vs) (hy:Pt l ys us):gW P N l o w (.func f vs.toArray us.toArray):=λa F=>by
 have h1:=F.evs hx;have h2:=F.evs hy;unfold execOp;simp only [ho,List.map_toArray,h1,h2];rfl
theorem acH {b off s n:Nat} {row:Array Value} {t:TypeId} {xs:List Value} (i:Nat) (S:St B w0 w fs) (hi:fs[i]? =some (.blk b row t)) (hl:xs.length=n*s) (hx: ∀ (j:Nat) (u:Value),xs[j]? =some u->row[off+j]? =some u):Rd w w.heap.size s (some ⟨b,off,none⟩) n xs:=
 ⟨hl,λ_=>⟨b,off,rfl,S.lt i hi,λj u hu=>S.cl i hi (hx j u hu)⟩⟩
theorem D6 {base:Nat} {e:TypeId} {size n c:Nat} {A:Option Addr} {xs:List Value} (h:w.ownsRow base e size (.slice A n c) n xs) (hn:0<n): ∃ g,A=some ⟨g,0,none⟩:=by
 rcases h.2 with ⟨_,h0⟩ | ⟨g,cap,cur,hv,_⟩
 ·omega
 exact ⟨g,by injection hv⟩
theorem St.abU {e e':TypeId} {s s':Nat} {g n c n' c':Nat} {xs xs':List Value} (i:Nat) (S:St B w0 w fs) (hi:fs[i]? =some (.own e s (.slice (some ⟨g,0,none⟩) n c) n xs)) (hu:tO w g w') (ho:w'.ownsRow B e' s' (.slice (some ⟨g,0,none⟩) n' c') n' xs'):
  St B w0 w' (fs.set i (.own e' s' (.slice (some ⟨g,0,none⟩) n' c') n' xs')):=
 S.turn i hi (hu.next S.low (Fact.l7 (S.all i _ hi) rfl).1) (Nat.le_of_eq hu.size.symm) (λk _ hk=>hu.block k (λe=>hk (by rw [e];rfl))) ho (λk hk=> .inl hk)
theorem JC {α:Type} {enc:α->List Value} {sz:Nat} (hsz: ∀ x,(enc x).length=sz): ∀ (k:Nat) (l:List α),(l.flatMap enc).take (k*sz)++(l.flatMap enc).drop ((k+1)*sz)=(l.eraseIdx k).flatMap enc
 | 0,[]=>by simp
 | 0,x::l=>by rw [List.flatMap_cons,Nat.zero_mul,List.take_zero,List.nil_append,Nat.zero_add,Nat.one_mul,List.drop_left' (hsz x)];rfl
 | k+1,[]=>by simp
 | k+1,x::l=>by
  rw [List.eraseIdx_cons_succ,List.flatMap_cons,List.flatMap_cons,<-JC hsz k l,Nat.succ_mul k,Nat.succ_mul (k+1),Nat.add_comm _ sz,Nat.add_comm _ sz,List.take_append,List.drop_append,hsz x];rw [List.take_of_length_le (by rw [hsz x];omega),List.drop_of_length_le (by rw [hsz x];omega),Nat.add_sub_cancel_left,Nat.add_sub_cancel_left,List.nil_append,List.append_assoc,Nat.succ_mul k,Nat.add_comm sz]
end
theorem aF {B:Nat} {w0 w:World} {fs:List Fact} {s:Nat} (S:St B w0 w fs):St B w0 w (.cu s none 0 []::fs):=S.cons ⟨Rd.none_,λa h=>by cases h⟩ λk hk=>by cases hk
end
section
open ChangeShapes WideShapes RowKit
inductive Pick (l:Slots):List Nat->Slots->Prop
 | z:Pick l [] []
 | s {k:Nat} {ks:List Nat} {v:Value} {l':Slots}:lk l k=some v->Pick l ks l'->Pick l (k::ks) ((k,v)::l')
theorem Pick.sub {l:Slots} {ks:List Nat} {l':Slots} (h:Pick l ks l'):KY l l':=by
 induction h with
 | z=>exact trivial
 | s h _ ih=>exact ⟨h,ih⟩
inductive iJ (f:Fact):List Fact->Nat->List Fact->Prop
 | z {g:Fact} {fs:List Fact}:iJ f (g::fs) 0 (f::fs)
 | s {g:Fact} {fs fs':List Fact} {i:Nat}:iJ f fs i fs'->iJ f (g::fs) (i+1) (g::fs')
theorem iJ.eq {f:Fact} {fs fs':List Fact} {i:Nat} (h:iJ f fs i fs'):fs.set i f=fs':=by
 induction h with
 | z=>rfl
 | s _ ih=>rw [List.set_cons_succ,ih]
def ajX:List Nat->List Fact->List Fact
 | [],fs=>fs
 | i::is,fs=>ajX is (fs.eraseIdx i)
theorem St.pI {B:Nat} {w0 w:World}: ∀ {fs:List Fact} (_:St B w0 w fs) (is:List Nat),St B w0 w (ajX is fs)
 | _,S,[]=>S
 | _,S,i::is=>(St.del i S).pI is
theorem L6 {α:Type} {enc:α->List Value} {w:World} {B sz n:Nat} {A:Option Addr} {l:List α} (k:Nat) (h:Rd w B sz A n (l.flatMap enc)) (hk:k<n) (hs: ∀ x,(enc x).length=sz:=by exact λ_=>rfl) (hz:Nat.blt 0 sz=true:=by exact rfl): ∃ x,l[k]? =some x:=by
 have h1:=h.1;rw [iG hs] at h1;have h2:l.length=n:=Nat.eq_of_mul_eq_mul_right (Nat.le_of_ble_eq_true hz) h1;exact ⟨_,List.getElem?_eq_getElem (by omega)⟩
section
variable {P:Program} {N:Nat} {l l':Slots} {w w' w0:World} {ops:Array Oper} {o:Oper} {rest:List Oper} {Q:Exit->Act->World->Prop} {d B:Nat} {v p:Value} {fs fs':List Fact} {ex:Exit}
theorem qk (ks:List Nat) (h:wQ N Q .normal l' w) (hp:Pick l ks l':=by repeat' first | exact Pick.z | apply Pick.s rfl):wL P N ops Q [] l w:=aco (bT hp.sub h)
theorem cw {c:Code} (ks:List Nat) (h:wC P N c Q l' w) (hp:Pick l ks l':=by repeat' first | exact Pick.z | apply Pick.s rfl):wC P N c Q l w:=bC hp.sub h
section
variable {x:Operand}
theorem ym (ho:o.op= .move x:=by exact rfl) (hx:ev l x=some v:=by exact rfl):gW P N l o w v:=acp ho hx
theorem ya (ho:o.op= .assign x:=by exact rfl) (hx:ev l x=some v:=by exact rfl):gW P N l o w v:=Rj ho hx
theorem yx {k:Nat} {vs:Array Value} (ho:o.op= .extract x k:=by exact rfl) (hx:ev l x=some (.tuple vs):=by exact rfl) (hk:vs[k]? =some v:=by exact rfl):gW P N l o w v:=Y5 ho hx hk
theorem ypT {c y:Operand} (ho:o.op= .pick c x y:=by exact rfl) (hc:ev l c=some (.bool true):=by exact rfl) (hx:ev l x=some v:=by exact rfl):gW P N l o w v:=adT ho hc hx
theorem ypF {c y:Operand} (ho:o.op= .pick c x y:=by exact rfl) (hc:ev l c=some (.bool false):=by exact rfl) (hx:ev l y=some v:=by exact rfl):gW P N l o w v:=adU ho hc hx
theorem yno {t:TypeId} {b c:Bool} (ho:o.op= .unOp .not t x:=by exact rfl) (hx:ev l x=some (.bool b):=by exact rfl) (hb:(!b)=c:=by exact rfl):gW P N l o w (.bool c):=hb▸acr ho hx asW
theorem vN {s:TypeId} {f b o0:Nat} {g:Nat->Nat} (o':Nat) (hf: ∀ (b o:Nat) (w:World),(Instr.fieldAt s (.pointer (some ⟨b,o,none⟩)) f).run P w= .ok (.pointer (some ⟨b,g o,none⟩)) w) (ho:o.op= .fieldAddr s x f:=by exact rfl)
  (hx:ev l x=some (.pointer (some ⟨b,o0,none⟩)):=by exact rfl) (he:g o0=o':=by exact rfl):gW P N l o w (.pointer (some ⟨b,o',none⟩)):=he▸GK ho hx (hf b o0 w)
theorem jg {t:TypeId} (ho:o.op= .build t ([]:List (Nat×Operand)).toArray:=by exact rfl) (hr:(Instr.build t ([]:List (Nat×Value)).toArray).run P w= .ok (.agg #[iV 0,iV 0,iV 0,iV 0,iV 0,.slice none 0 0]) w:=by kernel_rfl):gW P N l o w (.agg #[iV 0,iV 0,iV 0,iV 0,iV 0,.slice none 0 0]):=Dk (vs:=[]) ho trivial hr
theorem yz {t:TypeId} (ho:o.op= .build t ([]:List (Nat×Operand)).toArray:=by exact rfl) (hr:(Instr.build t ([]:List (Nat×Value)).toArray).run P w= .ok v w:=by kernel_rfl):gW P N l o w v:=Dk (vs:=[]) ho trivial hr
end
section
variable {t tt:TypeId} {kd:IntKind} {xo yo:Operand} {x y:Int}
theorem BU (ho:o.op= .binOp .lss t xo yo tt:=by exact rfl) (hx:ev l xo=some (.int kd x):=by exact rfl) (hy:ev l yo=some (.int kd y):=by exact rfl) (h:x<y:=by decide):gW P N l o w (.bool true):=aK ho hx hy (Ox h)
theorem ajY (ho:o.op= .binOp .lss t xo yo tt:=by exact rfl) (hx:ev l xo=some (.int kd x):=by exact rfl) (hy:ev l yo=some (.int kd y):=by exact rfl) (h: ¬ x<y:=by decide):gW P N l o w (.bool false):=aK ho hx hy (Oy h)
theorem ajZ (h:x=y) (ho:o.op= .binOp .eql t xo yo tt:=by exact rfl) (hx:ev l xo=some (.int kd x):=by exact rfl) (hy:ev l yo=some (.int kd y):=by exact rfl):gW P N l o w (.bool true):=aK ho hx hy (Oz h)
theorem abV (h: ¬ x=y) (ho:o.op= .binOp .eql t xo yo tt:=by exact rfl) (hx:ev l xo=some (.int kd x):=by exact rfl) (hy:ev l yo=some (.int kd y):=by exact rfl):gW P N l o w (.bool false):=aK ho hx hy (OB h)
theorem atA (ho:o.op= .binOp .neq t xo yo tt:=by exact rfl) (hx:ev l xo=some (.int kd x):=by exact rfl) (hy:ev l yo=some (.int kd y):=by exact rfl) (h:x=y:=by decide):gW P N l o w (.bool false):=aK ho hx hy (Ib h)
end
section
variable {C:World->Prop} {Qa:Act->Prop} {j:Nat} {t:Nat} {u:Value} {x:Operand}
theorem vv (hy:gW P N l o w v) (h:wL P N ops Q rest ((d,v)::l) w) (hw:o.guard=none:=by exact rfl) (hd:o.dst=some d:=by exact rfl) (hN:Nat.blt d N=true:=by exact rfl):wL P N ops Q (o::rest) l w:=EI (wn hw) hd hN hy h
theorem vm (h:wL P N ops Q rest ((d,v)::l) w) (hw:o.guard=none:=by exact rfl) (hd:o.dst=some d:=by exact rfl) (hN:Nat.blt d N=true:=by exact rfl) (ho:o.op= .move x:=by exact rfl) (hx:ev l x=some v:=by exact rfl):wL P N ops Q (o::rest) l w:=EI (wn hw) hd hN (acp ho hx) h
theorem va (h:wL P N ops Q rest ((d,v)::l) w) (hw:o.guard=none:=by exact rfl) (hd:o.dst=some d:=by exact rfl) (hN:Nat.blt d N=true:=by exact rfl) (ho:o.op= .assign x:=by exact rfl) (hx:ev l x=some v:=by exact rfl):wL P N ops Q (o::rest) l w:=EI (wn hw) hd hN (Rj ho hx) h
theorem vg {b:Bool} (hy:gW P N l o w v) (h:wL P N ops Q rest ((d,v)::l) w) (hg:o.guard=some (j,b):=by exact rfl) (hj:(ops[j]?).bind (·.dst)=some t:=by exact rfl) (hv:lk l t=some u:=by exact rfl) (hr:(yl u==some b)=true:=by exact rfl)
  (hd:o.dst=some d:=by exact rfl) (hN:Nat.blt d N=true:=by exact rfl):wL P N ops Q (o::rest) l w:=EI (wg hg hj hv hr) hd hN hy h
theorem vs {b:Bool} (h:wL P N ops Q rest ((d,undef)::l) w) (hg:o.guard=some (j,b):=by exact rfl) (hj:(ops[j]?).bind (·.dst)=some t:=by exact rfl) (hv:lk l t=some u:=by exact rfl) (hr:(yl u==some b)=false:=by exact rfl) (hd:o.dst=some d:=by exact rfl) (hN:Nat.blt d N=true:=by exact rfl):wL P N ops Q (o::rest) l w:=XE (wg hg hj hv hr) hd hN h
theorem uv (hy: ∀ w,C w->gW P N l o w v) (h:wU P N ops C Qa rest ((d,v)::l)) (hw:o.guard=none:=by exact rfl) (hd:o.dst=some d:=by exact rfl) (hN:Nat.blt d N=true:=by exact rfl):wU P N ops C Qa (o::rest) l:=M6 (wn hw) hd hN hy h
theorem ug {b:Bool} (hy: ∀ w,C w->gW P N l o w v) (h:wU P N ops C Qa rest ((d,v)::l)) (hg:o.guard=some (j,b):=by exact rfl) (hj:(ops[j]?).bind (·.dst)=some t:=by exact rfl) (hv:lk l t=some u:=by exact rfl) (hr:(yl u==some b)=true:=by exact rfl)
  (hd:o.dst=some d:=by exact rfl) (hN:Nat.blt d N=true:=by exact rfl):wU P N ops C Qa (o::rest) l:=M6 (wg hg hj hv hr) hd hN hy h
theorem ak {n:Nat} {listed listed':Array Bool} (i:Nat) (hi:ops[i]? =some o) (hS:C w) (hy: ∀ w,C w->gW P N l o w v) (h:wA P N ops Q C n listed' ((d,v)::l) w) (hs:Region.noSelect ops=true:=by kernel_rfl) (hf:Region.free .any ops listed i=true:=by kernel_rfl)
  (hr:(Region.ready .any ops listed).contains i=true:=by kernel_rfl) (hl:listed.setIfInBounds i true=listed':=by exact rfl) (hw:o.guard=none:=by exact rfl) (hd:o.dst=some d:=by exact rfl) (hN:Nat.blt d N=true:=by exact rfl):wA P N ops Q C (n+1) listed l w:=jJ hi hs hf hr hS hl (wn hw) hd hN hy h
theorem gk {n m:Nat} {listed listed':Array Bool} (i:Nat) (hi:ops[i]? =some o) (hS:C w) (hy: ∀ w,C w->gW P N l o w v) (h:wG P N ops Q C n m listed' ((d,v)::l) w) (hs:Region.noSelect ops=true:=by kernel_rfl) (hf:Region.free .any ops listed i=true:=by kernel_rfl)
  (hr:(Region.ready .any ops listed).contains i=true:=by kernel_rfl) (hnl:listed.getD n true=false:=by exact rfl) (hni:xw ops n i=true:=by kernel_rfl) (hne:Nat.beq n i=false:=by exact rfl) (hl:listed.setIfInBounds i true=listed':=by exact rfl) (hw:o.guard=none:=by exact rfl)
  (hd:o.dst=some d:=by exact rfl) (hN:Nat.blt d N=true:=by exact rfl):wG P N ops Q C n (m+1) listed l w:=Dm hi hs hf hr hnl hni hne hS hl (wn hw) hd hN hy h
theorem aW {n:Nat} {listed:Array Bool} (r:Nat) (h:wK P N ops Q C n r listed l w) (hr:Region.ready .any ops listed=[r]:=by kernel_rfl):wA P N ops Q C (n+1) listed l w:=amY hr h
end
section
variable {b m f:Nat} {row row' cs:Array Value} {t ty:TypeId} {x y:Operand} {ds:TypeDesc} {z u:Value}
theorem sa (i:Nat) (S:St B w0 w fs) (hz:(P.info? ty).map (·.size)=some m) (h: ∀ w',St B w0 w' fs'->wL P N ops Q rest l w') (hw:o.guard=none:=by exact rfl) (hd:o.dst=none:=by exact rfl) (ho:o.op= .store ty x y:=by exact rfl)
  (hx:ev l x=some (.pointer (some ⟨b,0,none⟩)):=by exact rfl) (hy:ev l y=some v:=by exact rfl) (hi:fs[i]? =some (.blk b row t):=by exact rfl) (hv:v.cells=cs:=by exact rfl) (hm:cs.size=m:=by exact rfl)
  (h1:cs.toList.all (·.oneCell')=true:=by exact rfl) (hr:Nat.ble m row.size=true:=by exact rfl) (hs:row.size=cs.size:=by exact rfl) (hf:iJ (.blk b cs t) fs i fs':=by repeat' first | exact iJ.z | apply iJ.s):wL P N ops Q (o::rest) l w:=
 EJ i S (wn hw) hd ho hx hy hi hv hz hm (bX h1) (by rw [Nat.zero_add];exact Nat.le_of_ble_eq_true hr) (qQ hs) hf.eq h
theorem sr {off:Nat} {row':Array Value} (i:Nat) (S:St B w0 w fs) (hz:(P.info? ty).map (·.size)=some m) (h: ∀ w',St B w0 w' fs'->wL P N ops Q rest l w') (hw:o.guard=none:=by exact rfl) (hd:o.dst=none:=by exact rfl) (ho:o.op= .store ty x y:=by exact rfl)
  (hx:ev l x=some (.pointer (some ⟨b,off,none⟩)):=by exact rfl) (hy:ev l y=some v:=by exact rfl) (hi:fs[i]? =some (.blk b row t):=by exact rfl) (hv:v.cells=cs:=by exact rfl) (hm:cs.size=m:=by exact rfl)
  (h1:cs.toList.all (·.oneCell')=true:=by exact rfl) (hr:Nat.ble (off+m) row.size=true:=by exact rfl) (hs:cK row off cs.toList=row':=by exact rfl) (hf:iJ (.blk b row' t) fs i fs':=by repeat' first | exact iJ.z | apply iJ.s):wL P N ops Q (o::rest) l w:=
 EJ i S (wn hw) hd ho hx hy hi hv hz hm (bX h1) (Nat.le_of_ble_eq_true hr) hs hf.eq h
theorem sn {C:World->Prop} {n:Nat} {listed listed':Array Bool} (j:Nat) (hi':ops[j]? =some o) (i:Nat) (S:St B w0 w fs) (hz:(P.info? ty).map (·.size)=some m) (h: ∀ w',St B w0 w' fs'->C w'/\wA P N ops Q C n listed' l w') (hl:listed.setIfInBounds j true=listed':=by exact rfl)
  (hw:o.guard=none:=by exact rfl) (hd:o.dst=none:=by exact rfl) (ho:o.op= .store ty x y:=by exact rfl) (hx:ev l x=some (.pointer (some ⟨b,0,none⟩)):=by exact rfl) (hy:ev l y=some v:=by exact rfl) (hi:fs[i]? =some (.blk b row t):=by exact rfl) (hv:v.cells=cs:=by exact rfl)
  (hm:cs.size=m:=by exact rfl) (h1:cs.toList.all (·.oneCell')=true:=by exact rfl) (hr:Nat.ble m row.size=true:=by exact rfl) (hs:row.size=cs.size:=by exact rfl) (hf:iJ (.blk b cs t) fs i fs':=by repeat' first | exact iJ.z | apply iJ.s):wK P N ops Q C n j listed l w:=
 tT hi' hl i S (wn hw) hd ho hx hy hi hv hz hm (bX h1) (by rw [Nat.zero_add];exact Nat.le_of_ble_eq_true hr) (qQ hs) hf.eq h
theorem xY {vs:List Value} {R:Ending->World->Prop} {xs:List Operand} {ts:Array TypeId} {j tg:Nat} {bb:Bool} (LZ: ∀ args w,(callFunc f args).run P w= .ok (.enter f args) w) (hc:Calls P f vs.toArray w R) (h: ∀ e w',R e w'-> ∃ v,e= .returned v/\wL P N ops Q rest ((d,v)::l) w')
  (hg:o.guard=some (j,bb):=by exact rfl) (hj:(ops[j]?).bind (·.dst)=some tg:=by exact rfl) (hv:lk l tg=some u:=by exact rfl) (hr:(yl u==some bb)=true:=by exact rfl) (hd:o.dst=some d:=by exact rfl) (hN:Nat.blt d N=true:=by exact rfl)
  (ho:o.op= .call { callee:= .value (.func f),args:=xs.toArray,argTypes:=ts }:=by exact rfl) (hx:Pt l xs vs:=by repeat' first | exact trivial | refine ⟨rfl,?_⟩):wL P N ops Q (o::rest) l w:=Ia (wg hg hj hv hr) hd hN (iB ho LZ hx) hc h
theorem nb {row:Array Value} (S:St B w0 w fs) (h: ∀ b w',St B w0 w' (.blk b row t::fs)->wL P N ops Q rest ((d,.pointer (some ⟨b,0,none⟩))::l) w') (hw:o.guard=none:=by exact rfl) (hd:o.dst=some d:=by exact rfl)
  (hN:Nat.blt d N=true:=by exact rfl) (ho:o.op= .box t x:=by exact rfl) (hx:ev l x=some p:=by exact rfl) (hc:p.cells=row:=by exact rfl):wL P N ops Q (o::rest) l w:=mD (V:=λb=> .pointer (some ⟨b,0,none⟩)) S (wn hw) hd hN (abM ho hx hc) h
theorem dI {vs:List Value} {R:Ending->World->Prop} {xs:List Operand} {ts:Array TypeId} (LZ: ∀ args w,(callFunc f args).run P w= .ok (.enter f args) w) (hc:Calls P f vs.toArray w R) (h: ∀ e w',R e w'-> ∃ v,e= .returned v/\wL P N ops Q rest ((d,v)::l) w')
  (hw:o.guard=none:=by exact rfl) (hd:o.dst=some d:=by exact rfl) (hN:Nat.blt d N=true:=by exact rfl) (ho:o.op= .call { callee:= .value (.func f),args:=xs.toArray,argTypes:=ts }:=by exact rfl) (hx:Pt l xs vs:=by repeat' first | exact trivial | refine ⟨rfl,?_⟩):
  wL P N ops Q (o::rest) l w:=Ia (wn hw) hd hN (iB ho LZ hx) hc h
theorem cab {vs:List Value} {xs:List Operand} {ts:Array TypeId} (LZ: ∀ args w,(callFunc f args).run P w= .ok (.enter f args) w) (S:St B w0 w fs) (hc:Calls P f vs.toArray w λe w'=>e= .returned v/\Below w.heap.size w w') (h: ∀ w',St B w0 w' fs->wL P N ops Q rest ((d,v)::l) w')
  (hw:o.guard=none:=by exact rfl) (hd:o.dst=some d:=by exact rfl) (hN:Nat.blt d N=true:=by exact rfl) (ho:o.op= .call { callee:= .value (.func f),args:=xs.toArray,argTypes:=ts }:=by exact rfl) (hx:Pt l xs vs:=by repeat' first | exact trivial | refine ⟨rfl,?_⟩):
  wL P N ops Q (o::rest) l w:=Ia (wn hw) hd hN (iB ho LZ hx) hc λ_ w' h'=>⟨v,h'.1,h w' (S.on h'.2)⟩
theorem pt {fn:Func} {R:Ending->World->Prop} {j:Nat} (hR:R (.returned (qP [v])) w) (hr:fn.results=[ResultVar.tmp j].toArray:=by exact rfl) (h2:lk l j=some v:=by exact rfl):wQ N (bodyPost P fn R) .ret l w:=dM (vs:=[v]) hr ⟨h2,trivial⟩ hR
theorem gB {fn:Func} {c:Code} {vs:List Value} {R:Ending->World->Prop} (N:Nat) (hf:P.funcs[f]? =some fn) (h:wC P N c (bodyPost P fn R) (ents 0 vs) w) (hb:fn.body=some c:=by exact rfl) (hn:fn.ntmps=N:=by exact rfl) (hN:Nat.ble vs.length N=true:=by exact rfl):Calls P f vs.toArray w R:=GD hf hb hn hN h
end
section
theorem BK {c6 c8:Code} {q3:Exit->Act->World->Prop} {o4:Operand} {i10:Nat} {os9:List Oper} (h:wL P N os9.toArray (Exit.then (c8.wp P q3) q3) os9 l w) (hc0:ev l o4=some (.bool true):=by exact rfl):wQ N (Exit.then ((Code.cond o4 (Code.seq (Code.region i10 os9.toArray false) c8) c6).wp P q3) q3) .normal l w:=gT (lF hc0 (aQ (aC h)))
theorem Vd {c5:Code} {q3:Exit->Act->World->Prop} {i7:Nat} {os6:List Oper} (h:wL P N os6.toArray (Exit.then (c5.wp P q3) q3) os6 l w):wQ N (Exit.then ((Code.seq (Code.region i7 os6.toArray false) c5).wp P q3) q3) .normal l w:=gT (aQ (aC h))
theorem Um {c5 c7:Code} {q3:Exit->Act->World->Prop} {i9:Nat} {os8:List Oper} (h:wL P N os8.toArray (Exit.then (c7.wp P (Exit.then (c5.wp P q3) q3)) (Exit.then (c5.wp P q3) q3)) os8 l w):wQ N (Exit.then ((Code.seq (Code.seq (Code.region i9 os8.toArray false) c7) c5).wp P q3) q3) .normal l w:=gT (aQ (aQ (aC h)))
theorem alb {q3:Exit->Act->World->Prop} (h:wQ N q3 .ret l w):wQ N (Exit.then (Code.ret.wp P q3) q3) .normal l w:=gT (nN h)
theorem adZ {c5 c10:Code} {q8:Exit->Act->World->Prop} {o4:Operand} {i12:Nat} {afS:List Oper} (h:wL P N afS.toArray (Exit.then (c10.wp P q8) q8) afS l w) (hc0:ev l o4=some (.bool false):=by exact rfl):wQ N (Exit.then ((Code.cond o4 c5 Code.skip).wp P (Exit.then ((Code.seq (Code.region i12 afS.toArray false) c10).wp P q8) q8)) (Exit.then ((Code.seq (Code.region i12 afS.toArray false) c10).wp P q8) q8)) .normal l w:=gT (lG hc0 (qz (gT (aQ (aC h)))))
theorem axq {c4:Code} {q2:Exit->Act->World->Prop} {i6:Nat} {os5:List Oper} (h:wL P N os5.toArray (Exit.then (c4.wp P q2) q2) os5 l w):wC P N (Code.seq (Code.region i6 os5.toArray false) c4) q2 l w:=aQ (aC h)
end
end
end
section
open ChangeShapes WideShapes ChangeAt RowKit
section
variable {P:Program} {N:Nat} {l:Slots} {w w' w0:World} {B:Nat} {fs fs':List Fact} {ops:Array Oper} {o:Oper} {rest:List Oper} {Q:Exit->Act->World->Prop} {v:Value} {d:Nat}
theorem Rd.acI {e:TypeId} {s n c:Nat} {A:Option Addr} {xs:List Value} (h:nM w B e s A n c xs):Rd w w.heap.size s A n xs:=by
 obtain ⟨h1,h2,h3,⟨rfl,h4⟩ | ⟨g,o,cur,rfl,h4,h5,h6,h7⟩⟩:=h
 ·exact ⟨h1,λhn=>absurd hn (by omega)⟩
 refine ⟨h1,λ_=>⟨g,o,rfl,(Array.getElem?_eq_some_iff.1 h5).1,λj u hu=>?_⟩⟩;rw [<-h7] at hu;have hj:j<n*s:=by
  have:=(List.getElem?_eq_some_iff.1 hu).1;rw [List.length_take] at this;omega
 rw [List.getElem?_take_of_lt hj,List.getElem?_drop] at hu;rw [cell_of_row w g (o+j) _ e (0,0) h5];simpa using hu
theorem nM.uQ (w:World) (B:Nat) (e:TypeId) (s:Nat):nM w B e s none 0 0 []:=⟨by simp,Nat.le_refl _,Nat.zero_le _,.inl ⟨rfl,rfl⟩⟩
theorem nM.tq {e:TypeId} {s n c:Nat} {A:Option Addr} {xs:List Value} (h:w.ownsRow B e s (.slice A n c) n xs):nM w B e s A n c xs:=by
 obtain ⟨h1,⟨h2,rfl⟩ | ⟨g,cap,cur,hv,hg,hh,hnc,hcm,hsz,htk⟩⟩:=h
 ·injection h2 with a b c'
  subst a;subst c';exact ⟨h1,Nat.le_refl _,Nat.zero_le _,.inl ⟨rfl,rfl⟩⟩
 injection hv with a b c'
 subst a;subst c';exact ⟨h1,hnc,hcm,.inr ⟨g,0,cur,rfl,hg,hh,by omega,by simpa using htk⟩⟩
theorem nM.cut {e:TypeId} {s n c k:Nat} {A:Option Addr} {xs:List Value} (h:nM w B e s A n c xs) (hk:k<=n):nM w B e s (if c=k then A else A.map (·.add (k*s))) (n-k) (c-k) (xs.drop (k*s)):=by
 obtain ⟨h1,h2,h3,h4⟩:=h;refine ⟨by rw [List.length_drop,h1,Nat.sub_mul],by omega,by omega,?_⟩
 rcases h4 with ⟨rfl,h4⟩ | ⟨g,o,cur,rfl,h4,h5,h6,h7⟩
 ·exact .inl ⟨by split<;>rfl,by omega⟩
 refine .inr ?_;by_cases hc:c=k
 ·rw [if_pos hc];have hn:n=k:=by omega
  refine ⟨g,o,cur,rfl,h4,h5,by rw [show c-k=0 by omega];omega,?_⟩;rw [show n-k=0 by omega,Nat.zero_mul,List.take_zero,<-h7,hn,List.drop_take,Nat.sub_self,List.take_zero]
 rw [if_neg hc];refine ⟨g,o+k*s,cur,by simp [Addr.add],h4,h5,?_,?_⟩
 ·have:k*s+(c-k)*s=c*s:=by rw [<-Nat.add_mul];congr 1;omega
  omega
 rw [<-h7,List.drop_take,List.drop_drop,<-Nat.sub_mul]
theorem K4 (w:World) (B:Nat) (t ty e:TypeId) (i:TypeInfo) (z:Value) (size bytes:Nat) (ht:P.underlying t=some (.slice e)) (hi:P.info? e=some i) (hz:i.zero=some z)
    (hsize:i.size=size) (hby:i.bytes=bytes) (hzs:z.cells.size=size) (hsz:0<size) (A:Option Addr) (n c:Nat) (xs:List Value) (hown:nM w B e size A n c xs)
    (a:Addr) (m c2:Nat) (news:List Value) (hl:news.length=m*size) (hnews: ∀ j u,news[j]? =some u->w.cell? (a.add j)=some u) (h1: ∀ u∈news,u.oneCell'=true)
    (h63:n+m<=maxLen) (hbytes:(n+m)*bytes<=140737488355328) (hbase:B<=w.heap.size) (hm:0<m):
    ∃ A' c' w',(Builtin.append_ #[t,t] ty #[.slice A n c,.slice (some a) m c2]).run P w= .ok (.slice A' (n+m) c') w'/\nM w' B e size A' (n+m) c' (xs++news)/\w.grownBy w' (A.map (·.block))/\
      (A'.map (·.block)=A.map (·.block)\/A'.map (·.block)=some w.heap.size):=by
  subst hsize;subst hby;have hsmall:n+m<=9223372036854775807:=by simp only [maxLen] at h63;omega
  have hrd:=Rd.acI hown;obtain ⟨hx1,hx2,hx3,hx4⟩:=hown;have hlen:(xs++news).length=(n+m)*i.size:=by rw [List.length_append,hx1,hl,Nat.add_mul]
  have grown: ∀ (old:Nat),old<n+m-> ∀ (row:Option Nat),
      nM (w.drew.alloc (.cells (xs.toArray++news.toArray++Builtin.zeroCells z.cells (grownCap w (n+m) old e-(n+m))) e)) B e i.size (some ⟨w.heap.size,0,none⟩) (n+m) (grownCap w (n+m) old e) (xs++news)/\
      w.grownBy (w.drew.alloc (.cells (xs.toArray++news.toArray++Builtin.zeroCells z.cells (grownCap w (n+m) old e-(n+m))) e)) row:=by
    intro old ho row;have hge:=grownCap_ge w (n+m) old e;have hcm:grownCap w (n+m) old e<=maxLen:=grownCap_le_maxLen w (n+m) old e h63;refine ⟨⟨hlen,hge,hcm,.inr ⟨w.heap.size,0,_,rfl,hbase,heap_alloc_new w.drew _,?_,?_⟩⟩,⟨rfl,rfl,rfl,by simp,λk hk _=>heap_alloc_old w.drew _ hk⟩⟩
    · simp only [Array.size_append,List.size_toArray,size_zeroCells,hzs,hx1,hl,<-Nat.add_mul]
      rw [Nat.zero_add];refine Nat.mul_le_mul_right _ ?_;omega
    · simp only [Array.toList_append,List.append_assoc,List.drop_zero]
      rw [<-List.append_assoc,<-hlen];exact List.take_left
  rcases hx4 with ⟨rfl,rfl⟩ | ⟨g,of,cur,rfl,hg,hh,hcs,htake⟩
  · have hn0:n=0:=by omega
    subst hn0;have hx:xs=[]:=List.eq_nil_of_length_eq_zero (by simpa using hx1);subst hx;have hr:=run_append_nil (P:=P) w t ty e i z ht hi hz a m c2 news hl hnews (by omega) (by omega) (by have hb:=hbytes;simp only [Nat.zero_add] at hb;omega);have hgr:=grown 0 (by omega) none;simp only [Nat.zero_add,List.nil_append,Array.empty_append] at hgr⊢;exact ⟨_,_,_,hr,hgr.1,hgr.2,Or.inr rfl⟩
  · by_cases hroom:n+m<=c
    · have hle:(n+m)*i.size<=c*i.size:=Nat.mul_le_mul_right _ hroom
      have hfit:of+n*i.size+news.length<=cur.size:=by rw [hl,Nat.add_assoc,<-Nat.add_mul];omega
      have hb:fQ w g cur e:=⟨hh⟩;have hr:=run_append_room_cells (P:=P) (w:=w) t ty e i ht hi g of n c a m c2 news hl hnews h1 hroom
        (λj hj=>by rw [hb.cell (k:=of+n*i.size+j) (Array.getElem?_eq_getElem (by omega))];rfl) (λj _=>hb.free _)
      have hb':=jA news (of+n*i.size) hb;refine ⟨_,_,_,hr,⟨hlen,hroom,hx3,.inr ⟨g,of,_,rfl,hg,hb'.blk,by rw [mQ];exact hcs,?_⟩⟩,?_,Or.inl rfl⟩
      · rw [gU _ _ _ hfit,<-hlen]
        have e1:(cur.toList.take (of+n*i.size)).drop of=xs:=by rw [<-htake,List.drop_take];congr 1;omega
        have e2:of<=(cur.toList.take (of+n*i.size)).length:=by rw [List.length_take,Array.length_toList];omega
        rw [List.append_assoc,List.drop_append_of_le_length e2,e1,<-List.append_assoc];exact List.take_left
      · have hu:=jB g news (of+n*i.size) w
        exact ⟨hu.os,hu.tape,hu.output,Nat.le_of_eq hu.size.symm,λk _ hk=>hu.block k (λe=>hk (by simp [e]))⟩
    · have hr:=run_append_grow (P:=P) w t ty e i z ht hi hz ⟨g,of,none⟩ n c xs hx1 (λj u hu=>by
          have hj:j<n*i.size:=by have:=(List.getElem?_eq_some_iff.1 hu).1;omega
          obtain ⟨b,off,e1,_,hc⟩:=hrd.2 (Nat.pos_of_ne_zero λh0=>by subst h0;omega)
          injection e1 with e1
          injection e1 with e1 e2
          subst e1;subst e2;rw [Go.WideShapes.add_plain];exact hc j u hu) a m c2 news hl hnews (by omega) (by omega) (growslice_fits (by omega) hbytes)
      have hgr:=grown c (by omega) (some g);exact ⟨_,_,_,hr,hgr.1,hgr.2,Or.inr rfl⟩
theorem St.has {f:Fact} (S:St B w0 w fs) (h:f∈fs):f.holds B w:=by
 obtain ⟨i,hi⟩:=List.mem_iff_getElem?.1 h;exact S.all i f hi
theorem St.hblk {b:Nat} {row:Array Value} {t:TypeId} (S:St B w0 w fs) (h:Fact.blk b row t∈fs):fQ w b row t:=(S.has h).2
def Fact.apart (f g:Fact):Prop:= ∀ k,f.foot=some k->g.foot≠some k
theorem Fact.apart.symm {f g:Fact} (h:f.apart g):g.apart f:=λk h1 h2=>h k h2 h1
theorem St.iff:St B w0 w fs↔Below B w0 w/\B<=w.heap.size/\(∀ f∈fs,f.holds B w)/\fs.Pairwise Fact.apart:=by
 constructor
 ·intro S;refine ⟨S.low,S.base,λf hf=>S.has hf,List.pairwise_iff_getElem.2 λi j hi hj hij=>?_⟩;exact S.sep i j _ _ (by omega) (List.getElem?_eq_getElem hi) (List.getElem?_eq_getElem hj)
 rintro ⟨h1,h2,h3,h4⟩;refine ⟨h1,h2,λi f hf=>h3 f (List.mem_of_getElem? hf),λi j f g hij hi hj=>?_⟩;obtain ⟨hi1,rfl⟩:=List.getElem?_eq_some_iff.1 hi;obtain ⟨hj1,rfl⟩:=List.getElem?_eq_some_iff.1 hj
 rcases Nat.lt_or_gt_of_ne hij with h | h
 ·exact List.pairwise_iff_getElem.1 h4 i j hi1 hj1 h
 exact (List.pairwise_iff_getElem.1 h4 j i hj1 hi1 h).symm
theorem St.perm {gs:List Fact} (S:St B w0 w fs) (h:fs.Perm gs):St B w0 w gs:=by
 obtain ⟨h1,h2,h3,h4⟩:=St.iff.1 S;exact St.iff.2 ⟨h1,h2,λf hf=>h3 f (h.mem_iff.2 hf),(h.pairwise_iff λh=>h.symm).1 h4⟩
theorem St.sub {gs:List Fact} (S:St B w0 w fs) (h:gs.Sublist fs):St B w0 w gs:=by
 obtain ⟨h1,h2,h3,h4⟩:=St.iff.1 S;exact St.iff.2 ⟨h1,h2,λf hf=>h3 f (h.mem hf),h4.sublist h⟩
theorem St.abW {e:TypeId} {s n c:Nat} {A:Option Addr} {xs:List Value} (i:Nat) (S:St B w0 w fs) (hi:fs[i]? =some (.off e s A n c xs)):nM w B e s A n c xs:=S.all i _ hi
theorem St.atB {e:TypeId} {s n c:Nat} {A:Option Addr} {xs:List Value} (i:Nat) (S:St B w0 w fs) (hi:fs[i]? =some (.off e s A n c xs)):Rd w w.heap.size s A n xs:=Rd.acI (S.abW i hi)
theorem St.anY {e:TypeId} {s n c:Nat} {A:Option Addr} {xs:List Value} (i k:Nat) (S:St B w0 w fs) (hi:fs[i]? =some (.off e s A n c xs)) (hk:k<=n):
  St B w0 w (fs.set i (.off e s (if c=k then A else A.map (·.add (k*s))) (n-k) (c-k) (xs.drop (k*s)))):=by
 refine S.turn i hi S.low (Nat.le_refl _) (λ_ _ _=>rfl) ((S.abW i hi).cut hk) λk' hk'=> .inl ?_
 cases A with
 | none=>split at hk'<;>cases hk'
 | some a=>
  show some a.block=some k'
  split at hk'
  ·exact hk'
  have:(a.add (k*s)).block=a.block:=by unfold Addr.add;split<;>rfl
  rw [<-this];exact hk'
theorem St.anZ {e:TypeId} {s n c n' c':Nat} {A A':Option Addr} {xs xs':List Value} (i:Nat) (S:St B w0 w fs) (hi:fs[i]? =some (.off e s A n c xs)) (hg:w.grownBy w' (A.map (·.block))) (ho:nM w' B e s A' n' c' xs')
  (hat:A'.map (·.block)=A.map (·.block)\/A'.map (·.block)=some w.heap.size):St B w0 w' (fs.set i (.off e s A' n' c' xs')):=by
 have h:=S.all i _ hi;refine S.turn i hi (S.low.grown hg S.base (λk hk=>(Fact.l7 h hk).1)) hg.size (λk hk hne=>hg.block k hk (λe=>hne e.symm)) ho (λk hk=>?_);have hk':A'.map (·.block)=some k:=hk
 rcases hat with h1 | h1
 ·exact .inl (by rw [<-hk',h1];rfl)
 rw [hk'] at h1
 cases h1;exact .inr (Nat.le_refl _)
theorem St.BL (S:St B w0 w fs) (e:TypeId) (s:Nat):St B w0 w (.off e s none 0 0 []::fs):=S.cons (nM.uQ w B e s) λk hk=>by cases hk
end
section
variable {P:Program} {N:Nat} {l:Slots} {w w' w0:World} {B m n i:Nat} {fs fs':List Fact} {ops:Array Oper} {o:Oper} {rest:List Oper} {Q:Exit->Act->World->Prop} {C:World->Prop} {listed listed':Array Bool} {v:Value} {d:Nat}
theorem Za {x y:Operand} {t e:TypeId} {z:Value} {size bytes k q c c0 Br:Nat} {A0 A:Option Addr} {xs news xs':List Value} (hi':ops[i]? =some o) (hl:listed.setIfInBounds i true=listed') (j:Nat) (S:St B w0 w fs) (hw:Wanted N ops l o true) (hd:o.dst=some d) (hN:Nat.blt d N=true)
  (ho:o.op= .call { callee:= .builtin .append,args:= #[x,y],argTypes:= #[t,t] }) (hx:ev l x=some (.slice A0 k c0)) (hy:ev l y=some (.slice A q c)) (hi:fs[j]? =some (.off e size A0 k c0 xs)) (hr:Rd w Br size A q news) (hq:0<q)
  (ht:P.underlying t=some (.slice e)) (Y6:(P.info? e).map (λi=>(i.zero,i.size,i.bytes))=some (some z,size,bytes)) (hzs:z.cells.size=size) (hsz:0<size) (h1: ∀ u∈news,u.oneCell'=true) (h63:k+q<=maxLen) (hbytes:(k+q)*bytes<=140737488355328)
  (hxs:xs++news=xs') (h: ∀ A' c' w',St B w0 w' (fs.set j (.off e size A' (k+q) c' xs'))->C w'/\wG P N ops Q C n m listed' ((d,.slice A' (k+q) c')::l) w'):wH P N ops Q C n m i listed l w:=by
 subst hxs;obtain ⟨j0,hj0,hz,hs,hb⟩:=info_parts Y6;obtain ⟨bb,oo,rfl,_,hc⟩:=hr.2 hq;obtain ⟨A',c',w',hrun,h2,h3,h4⟩:=K4 (P:=P) w B t o.type e j0 z size bytes ht hj0 hz hs hb hzs hsz A0 k c0 xs (S.abW j hi) ⟨bb,oo,none⟩ q c news hr.1 (λa u hu=>by rw [Go.WideShapes.add_plain];exact hc a u hu) h1 h63 hbytes S.base hq;exact abN hi' hl hw hd hN (FR (xs:=[x,y]) (vs:=[.slice A0 k c0,.slice (some ⟨bb,oo,none⟩) q c]) ho ⟨hx,hy,trivial⟩ (λcs=>by simp [builtin,hrun,Sem.run_bind,Result.andThen])) (h A' c' w' (S.anZ j hi h3 h2 h4))
end
end
section
open ChangeShapes WideShapes RowKit
inductive lq (b:Nat):List Fact->Array Value->TypeId->Prop
 | z {row:Array Value} {t:TypeId} {fs:List Fact}:lq b (.blk b row t::fs) row t
 | s {row:Array Value} {t:TypeId} {f:Fact} {fs:List Fact}:lq b fs row t->lq b (f::fs) row t
theorem lq.at_ {b:Nat} {fs:List Fact} {row:Array Value} {t:TypeId} (h:lq b fs row t): ∃ i:Nat,fs[i]? =some (Fact.blk b row t):=by
 induction h with
 | z=>exact ⟨0,rfl⟩
 | s _ ih=>obtain ⟨i,hi⟩:=ih;exact ⟨i+1,by simpa using hi⟩
inductive BZ:List Fact->List Fact->Prop
 | r {fs:List Fact}:BZ fs fs
 | k {f:Fact} {fs gs:List Fact}:BZ fs gs->BZ (f::fs) (f::gs)
 | d {f:Fact} {fs gs:List Fact}:BZ fs gs->BZ fs (f::gs)
 | a {fs gs:List Fact}:BZ fs (fs++gs)
theorem BZ.sub {fs gs:List Fact} (h:BZ fs gs):fs.Sublist gs:=by
 induction h with
 | r=>exact List.Sublist.refl _
 | k _ ih=>exact ih.cons_cons _
 | d _ ih=>exact ih.cons _
 | a=>exact List.sublist_append_left _ _
theorem Un {t:TypeId} {ds:TypeDesc} (h:Tryz.prog.underlying t=some ds:=by with_reducible first | exact Tryz.underlying3 | exact Tryz.underlying43 | exact Tryz.underlying41 | exact Tryz.underlying57 | exact Tryz.underlying44 | exact Tryz.underlying80 | exact Tryz.underlying101 | exact Tryz.underlying124 | exact Tryz.underlying53 | exact Tryz.underlying96 | exact Tryz.underlying72 | exact Tryz.underlying159 | exact Tryz.underlying83 | exact Tryz.underlying201 | exact Tryz.underlying73 | exact Tryz.underlying162 | exact Tryz.underlying26 | exact Tryz.underlying163 | exact Tryz.underlying169 | exact Tryz.underlying85 | exact Tryz.underlying4 | exact Tryz.underlying36 | exact Tryz.underlying81 | exact Tryz.underlying105 | exact Tryz.underlying69 | exact Tryz.underlying35 | exact Tryz.underlying127 | exact Tryz.underlying112 | exact Tryz.underlying40 | exact Tryz.underlying214 | exact Tryz.underlying33 | exact Tryz.underlying32 | exact Tryz.underlying209 | exact Tryz.underlying23 | exact Tryz.underlying103 | exact Tryz.underlying37 | exact Tryz.underlying38 | exact Tryz.underlying146 | exact Tryz.underlying90 | exact Tryz.underlying158 | exact Tryz.underlying212 | exact Tryz.underlying84 | exact Tryz.underlying176 | exact Tryz.underlying5 | exact Tryz.underlying77 | exact Tryz.underlying76 | exact Tryz.underlying167 | exact Tryz.underlying166 | exact Tryz.underlying94 | exact Tryz.underlying51 | exact Tryz.underlying217 | exact Tryz.underlying22 | exact Tryz.underlying60 | exact Tryz.underlying75 | exact Tryz.underlying67 | exact Tryz.underlying87 | exact Tryz.underlying30):Tryz.prog.underlying t=some ds:=h
theorem iiQ {t:TypeId} {m:Nat} (h:(Tryz.prog.info? t).map (·.size)=some m:=by with_reducible first | exact aB | exact anU | exact jY | exact mZ | exact dw | exact as3 | exact as7 | exact iE | exact jZ | exact jP | exact fB | exact PG | exact tC | exact iM | exact anV | exact as6 | exact as4 | exact anX | exact xA | exact oN | exact tV | exact Ie | exact wS | exact anW | exact U2 | exact p8 | exact as5 | exact acB | exact Hy | exact EL | exact as1 | exact EM | exact zh | exact asZ | exact as0 | exact BJ | exact EN | exact abQ | exact tX | exact U3 | exact PE | exact ajM | exact M9 | exact as2 | exact Ul | exact acD | exact abP | exact acE | exact acC | exact ajN | exact acF | exact acG | exact ajO):(Tryz.prog.info? t).map (·.size)=some m:=h
section
variable {P:Program} {N:Nat} {l l':Slots} {w w' w0:World} {ops:Array Oper} {o:Oper} {rest:List Oper} {Q:Exit->Act->World->Prop} {d B:Nat} {v p:Value} {fs fs':List Fact} {ex:Exit}
section
variable {x y:Operand} {t tt s:TypeId} {ds:TypeDesc} {b k f o0 n c m:Nat} {g:Nat->Nat} {row:Array Value} {A:Option Addr} {e:TypeId}
theorem zfa (ho:o.op= .fieldAddr s x f/\ev l x=some (.pointer (some ⟨b,o0,none⟩)):=by exact ⟨rfl,rfl⟩) (hf: ∀ (b o:Nat) (w:World),(Instr.fieldAt s (.pointer (some ⟨b,o,none⟩)) f).run P w= .ok (.pointer (some ⟨b,g o,none⟩)) w:=by with_reducible first | exact aho | exact acy | exact M8 | exact ahN | exact anj | exact anE | exact ahI | exact ahE | exact anJ | exact ahp | exact anF | exact ahD | exact ahv | exact anx | exact ahB | exact ahT | exact ahC | exact ahr | exact anr | exact ah0 | exact anG | exact ahs | exact ant | exact ahK | exact anl | exact ahw | exact am2 | exact anH | exact anm | exact ahq | exact ahx | exact ahR | exact ah3 | exact ane | exact anC | exact am3 | exact ahU | exact am0 | exact am1 | exact anL | exact ahz | exact ank | exact ahH | exact ah2 | exact ano | exact anq | exact ahF | exact anp | exact ahS | exact anz | exact anQ | exact anw | exact ahL | exact ahW | exact anS | exact ahV | exact anI | exact anA | exact anB | exact anv | exact ahM | exact Ag | exact Ah | exact Af | exact ahQ | exact ahG | exact ahX | exact anh | exact am4 | exact anT | exact ah4 | exact ahJ | exact ahZ | exact adX | exact anR | exact ahy | exact anf | exact ang | exact anu | exact ahO | exact Ig | exact ah1 | exact am5 | exact am8 | exact OH | exact OI | exact ahY | exact XQ | exact anM | exact anO | exact ahP | exact am6 | exact am7 | exact aht | exact ahu | exact adY | exact XR | exact XP | exact XO | exact ahA | exact ana | exact anc | exact anb):gW P N l o w (.pointer (some ⟨b,g o0,none⟩)):=GK ho.1 ho.2 (hf b o0 w)
theorem zld (ho:o.op= .load t x/\ev l x=some (.pointer (some ⟨b,k,none⟩)):=by exact ⟨rfl,rfl⟩) (hu:P.underlying t=some ds:=by exact Un) (hd:ds.isRow=false:=by exact rfl) (S:St B w0 w fs:=by assumption) (hf:lq b fs row tt:=by repeat' first | exact lq.z | apply lq.s) (hk:row[k]? =some v:=by exact rfl):gW P N l o w v:=by
 obtain ⟨i,hi⟩:=hf.at_;exact aj ho.1 ho.2 (ay hu hd (St.cl i S hi hk))
theorem zlr (ho:o.op= .load t x/\ev l x=some (.pointer (some ⟨b,0,none⟩)):=by exact ⟨rfl,rfl⟩) (hu:P.underlying t=some ds:=by exact Un) (hd:ds.isRow=true:=by exact rfl) (S:St B w0 w fs:=by assumption) (hf:lq b fs row tt:=by repeat' first | exact lq.z | apply lq.s) (hz:(P.info? t).map (·.size)=some m:=by exact iiQ) (hm:row.size=m:=by exact rfl):gW P N l o w (.agg row):=by
 obtain ⟨i,hi⟩:=hf.at_;exact aj ho.1 ho.2 (oq i S hi hu hd hz hm)
theorem zln (ho:o.op= .call { callee:= .builtin .len,args:= #[x],argTypes:= #[t] }/\ev l x=some (.slice A n c):=by exact ⟨rfl,rfl⟩) (hu:P.underlying t=some (.slice e):=by exact Un):gW P N l o w (.int .i64 ((n:Nat):Int)):=qC (xs:=[x]) (vs:=[_]) ho.1 ⟨ho.2,trivial⟩ λ_=>ajI rfl hu
theorem znl (ho:o.op= .nilCheck x:=by exact rfl) (hx:ev l x=some p:=by exact rfl) (hp:match p with | .pointer (some _)=>True | .func (.func _) _ _=>True | .func (.via ..) _ _=>True | _=>False:=by exact trivial):gW P N l o w p:=asT ho hx hp
section
variable {kd:IntKind} {xo yo:Operand} {x y:Int}
theorem atC (ho:o.op= .binOp .lss t xo yo tt/\ev l xo=some (.int kd x)/\ev l yo=some (.int kd y):=by exact ⟨rfl,rfl,rfl⟩) (h:x<y:=by first | assumption | decide):gW P N l o w (.bool true):=aK ho.1 ho.2.1 ho.2.2 (Ox h)
theorem atD (ho:o.op= .binOp .lss t xo yo tt/\ev l xo=some (.int kd x)/\ev l yo=some (.int kd y):=by exact ⟨rfl,rfl,rfl⟩) (h: ¬ x<y:=by first | assumption | decide):gW P N l o w (.bool false):=aK ho.1 ho.2.1 ho.2.2 (Oy h)
theorem atE (ho:o.op= .binOp .leq t xo yo tt/\ev l xo=some (.int kd x)/\ev l yo=some (.int kd y):=by exact ⟨rfl,rfl,rfl⟩) (h:x<=y:=by first | assumption | decide):gW P N l o w (.bool true):=aK ho.1 ho.2.1 ho.2.2 (XF h)
theorem atF (ho:o.op= .binOp .leq t xo yo tt/\ev l xo=some (.int kd x)/\ev l yo=some (.int kd y):=by exact ⟨rfl,rfl,rfl⟩) (h: ¬ x<=y:=by first | assumption | decide):gW P N l o w (.bool false):=aK ho.1 ho.2.1 ho.2.2 (XG h)
theorem atG (ho:o.op= .binOp .gtr t xo yo tt/\ev l xo=some (.int kd x)/\ev l yo=some (.int kd y):=by exact ⟨rfl,rfl,rfl⟩) (h:y<x:=by first | assumption | decide):gW P N l o w (.bool true):=aK ho.1 ho.2.1 ho.2.2 (XH h)
theorem atH (ho:o.op= .binOp .gtr t xo yo tt/\ev l xo=some (.int kd x)/\ev l yo=some (.int kd y):=by exact ⟨rfl,rfl,rfl⟩) (h: ¬ y<x:=by first | assumption | decide):gW P N l o w (.bool false):=aK ho.1 ho.2.1 ho.2.2 (XI h)
theorem atI (ho:o.op= .binOp .geq t xo yo tt/\ev l xo=some (.int kd x)/\ev l yo=some (.int kd y):=by exact ⟨rfl,rfl,rfl⟩) (h:y<=x:=by first | assumption | decide):gW P N l o w (.bool true):=aK ho.1 ho.2.1 ho.2.2 (XJ h)
theorem atJ (ho:o.op= .binOp .geq t xo yo tt/\ev l xo=some (.int kd x)/\ev l yo=some (.int kd y):=by exact ⟨rfl,rfl,rfl⟩) (h: ¬ y<=x:=by first | assumption | decide):gW P N l o w (.bool false):=aK ho.1 ho.2.1 ho.2.2 (XK h)
theorem atK (ho:o.op= .binOp .eql t xo yo tt/\ev l xo=some (.int kd x)/\ev l yo=some (.int kd y):=by exact ⟨rfl,rfl,rfl⟩) (h:x=y:=by first | assumption | decide):gW P N l o w (.bool true):=aK ho.1 ho.2.1 ho.2.2 (Oz h)
theorem atL (ho:o.op= .binOp .eql t xo yo tt/\ev l xo=some (.int kd x)/\ev l yo=some (.int kd y):=by exact ⟨rfl,rfl,rfl⟩) (h: ¬ x=y:=by first | assumption | decide):gW P N l o w (.bool false):=aK ho.1 ho.2.1 ho.2.2 (OB h)
theorem atM (ho:o.op= .binOp .neq t xo yo tt/\ev l xo=some (.int kd x)/\ev l yo=some (.int kd y):=by exact ⟨rfl,rfl,rfl⟩) (h: ¬ x=y:=by first | assumption | decide):gW P N l o w (.bool true):=aK ho.1 ho.2.1 ho.2.2 (OC h)
theorem atN (ho:o.op= .binOp .neq t xo yo tt/\ev l xo=some (.int kd x)/\ev l yo=some (.int kd y):=by exact ⟨rfl,rfl,rfl⟩) (h:x=y:=by first | assumption | decide):gW P N l o w (.bool false):=aK ho.1 ho.2.1 ho.2.2 (Ib h)
theorem an0 (ho:o.op= .binOp .lss t xo yo tt/\ev l xo=some (.int kd x)/\ev l yo=some (.int kd y):=by exact ⟨rfl,rfl,rfl⟩) (h:x<y:=by omega):gW P N l o w (.bool true):=aK ho.1 ho.2.1 ho.2.2 (Ox h)
theorem an1 (ho:o.op= .binOp .lss t xo yo tt/\ev l xo=some (.int kd x)/\ev l yo=some (.int kd y):=by exact ⟨rfl,rfl,rfl⟩) (h: ¬ x<y:=by omega):gW P N l o w (.bool false):=aK ho.1 ho.2.1 ho.2.2 (Oy h)
theorem an2 (ho:o.op= .binOp .leq t xo yo tt/\ev l xo=some (.int kd x)/\ev l yo=some (.int kd y):=by exact ⟨rfl,rfl,rfl⟩) (h:x<=y:=by omega):gW P N l o w (.bool true):=aK ho.1 ho.2.1 ho.2.2 (XF h)
theorem an3 (ho:o.op= .binOp .leq t xo yo tt/\ev l xo=some (.int kd x)/\ev l yo=some (.int kd y):=by exact ⟨rfl,rfl,rfl⟩) (h: ¬ x<=y:=by omega):gW P N l o w (.bool false):=aK ho.1 ho.2.1 ho.2.2 (XG h)
theorem an4 (ho:o.op= .binOp .gtr t xo yo tt/\ev l xo=some (.int kd x)/\ev l yo=some (.int kd y):=by exact ⟨rfl,rfl,rfl⟩) (h:y<x:=by omega):gW P N l o w (.bool true):=aK ho.1 ho.2.1 ho.2.2 (XH h)
theorem an5 (ho:o.op= .binOp .gtr t xo yo tt/\ev l xo=some (.int kd x)/\ev l yo=some (.int kd y):=by exact ⟨rfl,rfl,rfl⟩) (h: ¬ y<x:=by omega):gW P N l o w (.bool false):=aK ho.1 ho.2.1 ho.2.2 (XI h)
theorem an6 (ho:o.op= .binOp .geq t xo yo tt/\ev l xo=some (.int kd x)/\ev l yo=some (.int kd y):=by exact ⟨rfl,rfl,rfl⟩) (h:y<=x:=by omega):gW P N l o w (.bool true):=aK ho.1 ho.2.1 ho.2.2 (XJ h)
theorem an7 (ho:o.op= .binOp .geq t xo yo tt/\ev l xo=some (.int kd x)/\ev l yo=some (.int kd y):=by exact ⟨rfl,rfl,rfl⟩) (h: ¬ y<=x:=by omega):gW P N l o w (.bool false):=aK ho.1 ho.2.1 ho.2.2 (XK h)
theorem an8 (ho:o.op= .binOp .eql t xo yo tt/\ev l xo=some (.int kd x)/\ev l yo=some (.int kd y):=by exact ⟨rfl,rfl,rfl⟩) (h:x=y:=by omega):gW P N l o w (.bool true):=aK ho.1 ho.2.1 ho.2.2 (Oz h)
theorem an9 (ho:o.op= .binOp .eql t xo yo tt/\ev l xo=some (.int kd x)/\ev l yo=some (.int kd y):=by exact ⟨rfl,rfl,rfl⟩) (h: ¬ x=y:=by omega):gW P N l o w (.bool false):=aK ho.1 ho.2.1 ho.2.2 (OB h)
theorem aoa (ho:o.op= .binOp .neq t xo yo tt/\ev l xo=some (.int kd x)/\ev l yo=some (.int kd y):=by exact ⟨rfl,rfl,rfl⟩) (h: ¬ x=y:=by omega):gW P N l o w (.bool true):=aK ho.1 ho.2.1 ho.2.2 (OC h)
theorem aob (ho:o.op= .binOp .neq t xo yo tt/\ev l xo=some (.int kd x)/\ev l yo=some (.int kd y):=by exact ⟨rfl,rfl,rfl⟩) (h:x=y:=by omega):gW P N l o w (.bool false):=aK ho.1 ho.2.1 ho.2.2 (Ib h)
end
theorem apR {P:Program} {w:World} {t:TypeId} {xo yo:Operand} {a b:ByteArray} {q:Bool} (h:(a.toList==b.toList)=q):(do eqGuard .eql t xo yo (.string a) (.string b);binOp .eql t (.string a) (.string b):Sem Value).run P w= .ok (.bool q) w:=by
 subst h;simp [binOp,eqGuard_at_string,go_sem,Op.stringOp]
theorem axr {xo yo:Operand} {a b:ByteArray} (ho:o.op= .binOp .eql t xo yo tt/\ev l xo=some (.string a)/\ev l yo=some (.string b):=by exact ⟨rfl,rfl,rfl⟩) (h:(a.toList==b.toList)=true:=by decide+kernel):gW P N l o w (.bool true):=aK ho.1 ho.2.1 ho.2.2 (apR h)
theorem axt {xo yo:Operand} {a b:ByteArray} (ho:o.op= .binOp .eql t xo yo tt/\ev l xo=some (.string a)/\ev l yo=some (.string b):=by exact ⟨rfl,rfl,rfl⟩) (h:(a.toList==b.toList)=false:=by decide+kernel):gW P N l o w (.bool false):=aK ho.1 ho.2.1 ho.2.2 (apR h)
end
end
theorem axu: ∀ w,(Instr.build 32 ([]:List (Nat×Value)).toArray).run Tryz.prog w= .ok (.agg #[.int .i64 0,.int .i64 0]) w:=λw=>by kernel_rfl
theorem axv: ∀ w,(Instr.build 35 ([]:List (Nat×Value)).toArray).run Tryz.prog w= .ok (.agg #[.int .i64 0,.int .i64 0,.int .i64 0,.int .i64 0,.int .i64 0,.int .i64 0,.int .i64 0,.int .i64 0]) w:=λw=>by kernel_rfl
theorem axw: ∀ w,(Instr.build 40 ([]:List (Nat×Value)).toArray).run Tryz.prog w= .ok (.agg #[.int .i64 0,.bool false,.bool false,.bool false,.bool false,.bool false,.int .i64 0,.int .i64 0,.int .i64 0,.int .i64 0,.int .i64 0,.int .i64 0,.int .i64 0,.int .i64 0,.slice none 0 0,.slice none 0 0,.slice none 0 0,.int .i64 0]) w:=λw=>by kernel_rfl
theorem axx: ∀ w,(Instr.build 43 ([]:List (Nat×Value)).toArray).run Tryz.prog w= .ok (.agg #[.int .i64 0,.int .i64 0,.int .i64 0,.int .i64 0,.int .i64 0,.slice none 0 0]) w:=λw=>by kernel_rfl
theorem axy: ∀ w,(Instr.build 166 ([]:List (Nat×Value)).toArray).run Tryz.prog w= .ok (.agg #[.int .i64 0,.bool false,.bool false,.bool false,.bool false,.bool false,.bool false,.bool false,.bool false]) w:=λw=>by kernel_rfl
theorem axz: ∀ w,(Instr.build 53 ([]:List (Nat×Value)).toArray).run Tryz.prog w= .ok (.agg #[.int .i64 0,.int .i64 0,.int .i64 0,.int .i64 0,.int .i64 0,.int .i64 0]) w:=λw=>by kernel_rfl
theorem axA: ∀ w,(Instr.build 57 ([]:List (Nat×Value)).toArray).run Tryz.prog w= .ok (.agg #[.int .i64 0,.int .i64 0,.int .i64 0,.int .i64 0,.int .i64 0,.int .i64 0,.int .i64 0,.int .i64 0,.int .i64 0,.int .i64 0,.int .i64 0]) w:=λw=>by kernel_rfl
theorem axB: ∀ w,(Instr.build 101 ([]:List (Nat×Value)).toArray).run Tryz.prog w= .ok (.agg #[.int .i64 0,.int .i64 0,.int .i64 0,.int .i64 0]) w:=λw=>by kernel_rfl
theorem axC: ∀ w,(Instr.build 103 ([]:List (Nat×Value)).toArray).run Tryz.prog w= .ok (.agg #[.int .i64 0,.int .i64 0,.int .i64 0,.int .i64 0,.int .i64 0,.int .i64 0,.int .i64 0]) w:=λw=>by kernel_rfl
theorem axD: ∀ w,(Instr.build 209 ([]:List (Nat×Value)).toArray).run Tryz.prog w= .ok (.agg #[.int .i64 0,.int .i64 0]) w:=λw=>by kernel_rfl
theorem axE: ∀ w,(Instr.build 212 ([]:List (Nat×Value)).toArray).run Tryz.prog w= .ok (.agg #[.int .i64 0,.int .i64 0,.int .i64 0,.int .i64 0]) w:=λw=>by kernel_rfl
theorem atO: ∀ w,(Instr.build 75 ([]:List (Nat×Value)).toArray).run Tryz.prog w= .ok (.agg #[.int .i64 0,.int .i64 0]) w:=λw=>by kernel_rfl
theorem atP: ∀ w,(Instr.build 83 ([]:List (Nat×Value)).toArray).run Tryz.prog w= .ok (.agg #[.slice none 0 0,.int .i64 0]) w:=λw=>by kernel_rfl
theorem atQ: ∀ w,(Instr.build 87 ([]:List (Nat×Value)).toArray).run Tryz.prog w= .ok (.agg #[.int .i64 0,.bool false,.slice none 0 0,.int .i64 0,.slice none 0 0,.int .i64 0,.int .i64 0,.int .i64 0,.int .i64 0,.int .i64 0,.int .i64 0,.int .i64 0,.int .i64 0,.bool false,.bool false,.bool false,.bool false,.slice none 0 0,.nilFunc,.int .i64 0]) w:=λw=>by kernel_rfl
theorem atS: ∀ w,(Instr.build 96 ([]:List (Nat×Value)).toArray).run Tryz.prog w= .ok (.agg #[.pointer none,.int .i64 0]) w:=λw=>by kernel_rfl
theorem atT: ∀ w,(Instr.build 105 ([]:List (Nat×Value)).toArray).run Tryz.prog w= .ok (.agg #[.int .i64 0,.int .i64 0,.int .i64 0,.int .i64 0,.int .i64 0,.int .i64 0,.int .i64 0,.int .i64 0,.int .i64 0,.int .i64 0,.int .i64 0,.int .i64 0,.int .i64 0,.slice none 0 0,.bool false,.int .i64 0,.int .i64 0,.int .i64 0,.int .i64 0,.int .i64 0,.int .i64 0,.int .i64 0,.int .i64 0]) w:=λw=>by kernel_rfl
theorem atU: ∀ w,(Instr.build 124 ([]:List (Nat×Value)).toArray).run Tryz.prog w= .ok (.agg #[.int .i64 0,.int .i64 0,.int .i64 0,.int .i64 0,.int .i64 0,.int .i64 0,.int .i64 0,.int .i64 0,.int .i64 0,.int .i64 0]) w:=λw=>by kernel_rfl
section
variable {P:Program} {N:Nat} {l l':Slots} {w w' w0:World} {ops:Array Oper} {o:Oper} {rest:List Oper} {Q:Exit->Act->World->Prop} {d B:Nat} {v p:Value} {fs fs':List Fact} {ex:Exit}
section
variable {x y:Operand} {t tt s:TypeId} {ds:TypeDesc} {b k f o0 n c m:Nat} {g:Nat->Nat} {row:Array Value} {A:Option Addr} {e:TypeId}
theorem ybz {row:Array Value} (ho:o.op= .build t ([]:List (Nat×Operand)).toArray:=by exact rfl) (hr: ∀ w,(Instr.build t ([]:List (Nat×Value)).toArray).run P w= .ok (.agg row) w:=by with_reducible first | exact axu | exact axv | exact axw | exact axx | exact axy | exact axz | exact axA | exact axB | exact axC | exact axD | exact axE | exact atO | exact atP | exact atQ | exact atS | exact atT | exact atU):gW P N l o w (.agg row):=Dk (vs:=[]) ho trivial (hr w)
theorem y0Q (hy:gW P N l o w v:=by first | exact ym | exact ya | exact yx | exact yno | exact znl | exact zfa | exact zld | exact zlr | exact zln | exact ypT | exact ypF | exact ybz | exact axr | exact axt | exact atC | exact atD | exact atE | exact atF | exact atG | exact atH | exact atI | exact atJ | exact atK | exact atL | exact atM | exact atN | exact an0 | exact an1 | exact an2 | exact an3 | exact an4 | exact an5 | exact an6 | exact an7 | exact an8 | exact an9 | exact aoa | exact aob):gW P N l o w v:=hy
end
inductive lT:Nat->List Bool->Nat->List Bool->Prop
 | z {l:List Bool}:lT 0 (false::l) 0 (true::l)
 | t {k i:Nat} {l l':List Bool}:lT k l i l'->lT k (true::l) (i+1) (true::l')
 | f {k i:Nat} {l l':List Bool}:lT k l i l'->lT (k+1) (false::l) (i+1) (false::l')
theorem lT.eq {k i:Nat} {l l':List Bool} (h:lT k l i l'):l.toArray.setIfInBounds i true=l'.toArray:=by
 suffices h2:l.set i true=l' by simp [h2]
 induction h with
 | z=>rfl
 | t _ ih=>rw [List.set_cons_succ,ih]
 | f _ ih=>rw [List.set_cons_succ,ih]
inductive qE:List Bool->Nat->List Bool->Prop
 | z {b:Bool} {l:List Bool}:qE (b::l) 0 (true::l)
 | s {b:Bool} {i:Nat} {l l':List Bool}:qE l i l'->qE (b::l) (i+1) (b::l')
theorem qE.eq {i:Nat} {l l':List Bool} (h:qE l i l'):l.toArray.setIfInBounds i true=l'.toArray:=by
 suffices h2:l.set i true=l' by simp [h2]
 induction h with
 | z=>rfl
 | s _ ih=>rw [List.set_cons_succ,ih]
def Step (A B:Prop):Prop:=B->A
section
variable {C:World->Prop} {Qa:Act->Prop} {j:Nat} {t:Nat} {u:Value} {b:Bool}
theorem q1Q (hw:o.guard=none/\o.dst=some d/\Nat.blt d N=true:=by exact ⟨rfl,rfl,rfl⟩) (hy:gW P N l o w v:=by exact y0Q):Step (wL P N ops Q (o::rest) l w) (wL P N ops Q rest ((d,v)::l) w):=λh=>EI (wn hw.1) hw.2.1 hw.2.2 hy h
theorem q2Q (hg:o.guard=some (j,b)/\(ops[j]?).bind (·.dst)=some t:=by exact ⟨rfl,rfl⟩) (hv:lk l t=some u:=by exact rfl) (hr:(yl u==some b)=true/\o.dst=some d/\Nat.blt d N=true:=by exact ⟨rfl,rfl,rfl⟩) (hy:gW P N l o w v:=by exact y0Q):Step (wL P N ops Q (o::rest) l w) (wL P N ops Q rest ((d,v)::l) w):=λh=>EI (wg hg.1 hg.2 hv hr.1) hr.2.1 hr.2.2 hy h
theorem q3Q (hw:o.guard=none/\o.dst=some d/\Nat.blt d N=true:=by exact ⟨rfl,rfl,rfl⟩) (hy: ∀ w,C w->gW P N l o w v:=by (intro w S;exact y0Q)):Step (wU P N ops C Qa (o::rest) l) (wU P N ops C Qa rest ((d,v)::l)):=λh=>M6 (wn hw.1) hw.2.1 hw.2.2 hy h
theorem q4Q (hg:o.guard=some (j,b)/\(ops[j]?).bind (·.dst)=some t:=by exact ⟨rfl,rfl⟩) (hv:lk l t=some u:=by exact rfl) (hr:(yl u==some b)=true/\o.dst=some d/\Nat.blt d N=true:=by exact ⟨rfl,rfl,rfl⟩) (hy: ∀ w,C w->gW P N l o w v:=by (intro w S;exact y0Q)):Step (wU P N ops C Qa (o::rest) l) (wU P N ops C Qa rest ((d,v)::l)):=λh=>M6 (wg hg.1 hg.2 hv hr.1) hr.2.1 hr.2.2 hy h
theorem St.fit {gs:List Fact} (S:St B w0 w gs) (h:BZ fs gs:=by repeat' first | exact BZ.r | exact BZ.a | apply BZ.k | apply BZ.d):St B w0 w fs:=S.sub h.sub
section
variable {n m i:Nat} {listed listed':Array Bool}
theorem XV {ls ls':List Bool} (q:Nat) (hl:lT q ls i ls':=by repeat' first | exact lT.z | apply lT.t | apply lT.f) (hi:ops[i]? =some o:=by exact rfl) (hw:o.guard=none/\o.dst=some d/\Nat.blt d N=true:=by exact ⟨rfl,rfl,rfl⟩) (hy: ∀ w,C w->gW P N l o w v:=by (intro w S;exact y0Q)) (hS:C w:=by first | assumption | exact St.fit (by assumption)) (hs:Region.noSelect ops=true:=by kernel_rfl) (hf:Region.free .any ops ls.toArray i=true:=by kernel_rfl) (hr:(Region.ready .any ops ls.toArray).contains i=true:=by kernel_rfl):Step (wA P N ops Q C (n+1) ls.toArray l w) (wA P N ops Q C n ls'.toArray ((d,v)::l) w):=λh=>jJ hi hs hf hr hS hl.eq (wn hw.1) hw.2.1 hw.2.2 hy h
theorem XW {ls ls':List Bool} (q:Nat) (hl:lT q ls i ls':=by repeat' first | exact lT.z | apply lT.t | apply lT.f) (hi:ops[i]? =some o:=by exact rfl) (hw:o.guard=none/\o.dst=some d/\Nat.blt d N=true:=by exact ⟨rfl,rfl,rfl⟩) (hy: ∀ w,C w->gW P N l o w v:=by (intro w S;exact y0Q)) (hS:C w:=by first | assumption | exact St.fit (by assumption)) (hs:Region.noSelect ops=true:=by kernel_rfl) (hf:Region.free .any ops ls.toArray i=true:=by kernel_rfl) (hr:(Region.ready .any ops ls.toArray).contains i=true:=by kernel_rfl) (hnl:ls.toArray.getD n true=false:=by exact rfl) (hni:xw ops n i=true:=by kernel_rfl) (hne:Nat.beq n i=false:=by exact rfl):Step (wG P N ops Q C n (m+1) ls.toArray l w) (wG P N ops Q C n m ls'.toArray ((d,v)::l) w):=λh=>Dm hi hs hf hr hnl hni hne hS hl.eq (wn hw.1) hw.2.1 hw.2.2 hy h
theorem XY {ls ls':List Bool} (q:Nat) (hl:lT q ls i ls':=by repeat' first | exact lT.z | apply lT.t | apply lT.f) (hi:ops[i]? =some o:=by exact rfl) (hg:o.guard=some (j,b)/\(ops[j]?).bind (·.dst)=some t:=by exact ⟨rfl,rfl⟩) (hv:lk l t=some u:=by exact rfl) (hr0:(yl u==some b)=true/\o.dst=some d/\Nat.blt d N=true:=by exact ⟨rfl,rfl,rfl⟩) (hy: ∀ w,C w->gW P N l o w v:=by (intro w S;exact y0Q)) (hS:C w:=by first | assumption | exact St.fit (by assumption)) (hs:Region.noSelect ops=true:=by kernel_rfl) (hf:Region.free .any ops ls.toArray i=true:=by kernel_rfl) (hr:(Region.ready .any ops ls.toArray).contains i=true:=by kernel_rfl):Step (wA P N ops Q C (n+1) ls.toArray l w) (wA P N ops Q C n ls'.toArray ((d,v)::l) w):=λh=>jJ hi hs hf hr hS hl.eq (wg hg.1 hg.2 hv hr0.1) hr0.2.1 hr0.2.2 hy h
theorem XZ {ls ls':List Bool} (q:Nat) (hl:lT q ls i ls':=by repeat' first | exact lT.z | apply lT.t | apply lT.f) (hi:ops[i]? =some o:=by exact rfl) (hg:o.guard=some (j,b)/\(ops[j]?).bind (·.dst)=some t:=by exact ⟨rfl,rfl⟩) (hv:lk l t=some u:=by exact rfl) (hr0:(yl u==some b)=false/\o.dst=some d/\Nat.blt d N=true:=by exact ⟨rfl,rfl,rfl⟩) (hS:C w:=by first | assumption | exact St.fit (by assumption)) (hs:Region.noSelect ops=true:=by kernel_rfl) (hf:Region.free .any ops ls.toArray i=true:=by kernel_rfl) (hr:(Region.ready .any ops ls.toArray).contains i=true:=by kernel_rfl):Step (wA P N ops Q C (n+1) ls.toArray l w) (wA P N ops Q C n ls'.toArray ((d,undef)::l) w):=λh=>Ad hi hs hf hr hS hl.eq (wg hg.1 hg.2 hv hr0.1) hr0.2.1 hr0.2.2 h
theorem X0 {ls ls':List Bool} (q:Nat) (hl:lT q ls i ls':=by repeat' first | exact lT.z | apply lT.t | apply lT.f) (hi:ops[i]? =some o:=by exact rfl) (hg:o.guard=some (j,b)/\(ops[j]?).bind (·.dst)=some t:=by exact ⟨rfl,rfl⟩) (hv:lk l t=some u:=by exact rfl) (hr0:(yl u==some b)=true/\o.dst=some d/\Nat.blt d N=true:=by exact ⟨rfl,rfl,rfl⟩) (hy: ∀ w,C w->gW P N l o w v:=by (intro w S;exact y0Q)) (hS:C w:=by first | assumption | exact St.fit (by assumption)) (hs:Region.noSelect ops=true:=by kernel_rfl) (hf:Region.free .any ops ls.toArray i=true:=by kernel_rfl) (hr:(Region.ready .any ops ls.toArray).contains i=true:=by kernel_rfl) (hnl:ls.toArray.getD n true=false:=by exact rfl) (hni:xw ops n i=true:=by kernel_rfl) (hne:Nat.beq n i=false:=by exact rfl):Step (wG P N ops Q C n (m+1) ls.toArray l w) (wG P N ops Q C n m ls'.toArray ((d,v)::l) w):=λh=>Dm hi hs hf hr hnl hni hne hS hl.eq (wg hg.1 hg.2 hv hr0.1) hr0.2.1 hr0.2.2 hy h
theorem Ii {ls ls':List Bool} (q:Nat) (hl:lT q ls i ls':=by repeat' first | exact lT.z | apply lT.t | apply lT.f) (hi:ops[i]? =some o:=by exact rfl) (hg:o.guard=some (j,b)/\(ops[j]?).bind (·.dst)=some t:=by exact ⟨rfl,rfl⟩) (hv:lk l t=some u:=by exact rfl) (hr0:(yl u==some b)=false/\o.dst=some d/\Nat.blt d N=true:=by exact ⟨rfl,rfl,rfl⟩) (hS:C w:=by first | assumption | exact St.fit (by assumption)) (hs:Region.noSelect ops=true:=by kernel_rfl) (hf:Region.free .any ops ls.toArray i=true:=by kernel_rfl) (hr:(Region.ready .any ops ls.toArray).contains i=true:=by kernel_rfl) (hnl:ls.toArray.getD n true=false:=by exact rfl) (hni:xw ops n i=true:=by kernel_rfl) (hne:Nat.beq n i=false:=by exact rfl):Step (wG P N ops Q C n (m+1) ls.toArray l w) (wG P N ops Q C n m ls'.toArray ((d,undef)::l) w):=λh=>ahm hi hs hf hr hnl hni hne hS hl.eq (wg hg.1 hg.2 hv hr0.1) hr0.2.1 hr0.2.2 h
end
end
section
variable {fn:Func} {R:Ending->World->Prop} {i j k:Nat} {v1 v2 v3:Value} {ty t tt:TypeId} {b m:Nat} {row:Array Value} {ds:TypeDesc}
theorem p0Q (hr:fn.results=([]:List ResultVar).toArray:=by exact rfl):Step (wQ N (bodyPost P fn R) .ret l w) (R (.returned (qP [])) w):=λhR=>dM (vs:=[]) hr trivial hR
theorem axF (hr:fn.results=([]:List ResultVar).toArray:=by exact rfl):Step (wQ N (bodyPost P fn R) .normal l w) (R (.returned (qP [])) w):=λhR=>aY (vs:=[]) hr trivial hR
theorem p1Q (hr:fn.results=[ResultVar.tmp i].toArray:=by exact rfl) (h1:lk l i=some v1:=by exact rfl):Step (wQ N (bodyPost P fn R) .ret l w) (R (.returned (qP [v1])) w):=λhR=>dM (vs:=[v1]) hr ⟨h1,trivial⟩ hR
theorem p2Q (hr:fn.results=[ResultVar.tmp i,ResultVar.tmp j].toArray:=by exact rfl) (h1:lk l i=some v1:=by exact rfl) (h2:lk l j=some v2:=by exact rfl):Step (wQ N (bodyPost P fn R) .ret l w) (R (.returned (qP [v1,v2])) w):=λhR=>dM (vs:=[v1,v2]) hr ⟨h1,h2,trivial⟩ hR
theorem p3Q (hr:fn.results=[ResultVar.tmp i,ResultVar.tmp j,ResultVar.tmp k].toArray:=by exact rfl) (h1:lk l i=some v1:=by exact rfl) (h2:lk l j=some v2/\lk l k=some v3:=by exact ⟨rfl,rfl⟩):Step (wQ N (bodyPost P fn R) .ret l w) (R (.returned (qP [v1,v2,v3])) w):=λhR=>dM (vs:=[v1,v2,v3]) hr ⟨h1,h2.1,h2.2,trivial⟩ hR
theorem axG (hr:fn.results=[ResultVar.cell i ty].toArray/\lk l i=some (.pointer (some ⟨b,0,none⟩)):=by exact ⟨rfl,rfl⟩) (S:St B w0 w fs:=by assumption) (hf:lq b fs row tt:=by repeat' first | exact lq.z | apply lq.s) (hu:P.underlying ty=some ds:=by exact Un) (hd:ds.isRow=true:=by exact rfl) (hz:(P.info? ty).map (·.size)=some m:=by exact iiQ) (hm:row.size=m:=by exact rfl):Step (wQ N (bodyPost P fn R) .ret l w) (R (.returned (qP [.agg row])) w):=λhR=>by
 obtain ⟨q,hq⟩:=hf.at_;exact dM (vs:=[.agg row]) hr.1 ⟨⟨_,hr.2,eB q S hq hu hd (by rw [hm];exact hz)⟩,trivial⟩ hR
theorem axH (hr:fn.results=[ResultVar.cell i ty,ResultVar.tmp j].toArray:=by exact rfl) (h1:lk l j=some v1:=by exact rfl) (hc:lk l i=some (.pointer (some ⟨b,0,none⟩)):=by exact rfl) (S:St B w0 w fs:=by assumption) (hf:lq b fs row tt:=by repeat' first | exact lq.z | apply lq.s) (hu:P.underlying ty=some ds:=by exact Un) (hd:ds.isRow=true:=by exact rfl) (hz:(P.info? ty).map (·.size)=some m:=by exact iiQ) (hm:row.size=m:=by exact rfl):Step (wQ N (bodyPost P fn R) .ret l w) (R (.returned (qP [.agg row,v1])) w):=λhR=>by
 obtain ⟨q,hq⟩:=hf.at_;exact dM (vs:=[.agg row,v1]) hr ⟨⟨_,hc,eB q S hq hu hd (by rw [hm];exact hz)⟩,h1,trivial⟩ hR
theorem axI (hr:fn.results=[ResultVar.cell i ty,ResultVar.tmp j,ResultVar.tmp k].toArray:=by exact rfl) (h1:lk l j=some v1:=by exact rfl) (h2:lk l k=some v2/\lk l i=some (.pointer (some ⟨b,0,none⟩)):=by exact ⟨rfl,rfl⟩) (S:St B w0 w fs:=by assumption) (hf:lq b fs row tt:=by repeat' first | exact lq.z | apply lq.s) (hu:P.underlying ty=some ds:=by exact Un) (hd:ds.isRow=true:=by exact rfl) (hz:(P.info? ty).map (·.size)=some m:=by exact iiQ) (hm:row.size=m:=by exact rfl):Step (wQ N (bodyPost P fn R) .ret l w) (R (.returned (qP [.agg row,v1,v2])) w):=λhR=>by
 obtain ⟨q,hq⟩:=hf.at_;exact dM (vs:=[.agg row,v1,v2]) hr ⟨⟨_,h2.2,eB q S hq hu hd (by rw [hm];exact hz)⟩,h1,h2.1,trivial⟩ hR
theorem axJ {r:Nat} (hr:fn.results=[ResultVar.cell i ty,ResultVar.tmp j,ResultVar.tmp k,ResultVar.tmp r].toArray:=by exact rfl) (h1:lk l j=some v1:=by exact rfl) (h2:lk l k=some v2/\lk l r=some v3/\lk l i=some (.pointer (some ⟨b,0,none⟩)):=by exact ⟨rfl,rfl,rfl⟩) (S:St B w0 w fs:=by assumption) (hf:lq b fs row tt:=by repeat' first | exact lq.z | apply lq.s) (hu:P.underlying ty=some ds:=by exact Un) (hd:ds.isRow=true:=by exact rfl) (hz:(P.info? ty).map (·.size)=some m:=by exact iiQ) (hm:row.size=m:=by exact rfl):Step (wQ N (bodyPost P fn R) .ret l w) (R (.returned (qP [.agg row,v1,v2,v3])) w):=λhR=>by
 obtain ⟨q,hq⟩:=hf.at_;exact dM (vs:=[.agg row,v1,v2,v3]) hr ⟨⟨_,h2.2.2,eB q S hq hu hd (by rw [hm];exact hz)⟩,h1,h2.1,h2.2.1,trivial⟩ hR
end
theorem gLQ {B:Prop} (h:Step (wL P N ops Q rest l w) B):Step (wL P N ops Q rest l w) B:=h
theorem gQQ {B:Prop} (h:Step (wQ N Q ex l w) B):Step (wQ N Q ex l w) B:=h
theorem gUQ {B:Prop} {C:World->Prop} {Qa:Act->Prop} (h:Step (wU P N ops C Qa rest l) B):Step (wU P N ops C Qa rest l) B:=h
theorem gAQ {B:Prop} {C:World->Prop} {n:Nat} {ls:List Bool} (h:Step (wA P N ops Q C (n+1) ls.toArray l w) B):Step (wA P N ops Q C (n+1) ls.toArray l w) B:=h
theorem gGQ {B:Prop} {C:World->Prop} {n m:Nat} {ls:List Bool} (h:Step (wG P N ops Q C n (m+1) ls.toArray l w) B):Step (wG P N ops Q C n (m+1) ls.toArray l w) B:=h
section
variable {K:Act->World->Prop} {x y:Code} {id:Nat} {os:List Oper} {c:Operand} {C:World->Prop} {Qa:Act->Prop} {j t n:Nat} {u:Value} {b:Bool} {listed:Array Bool} {A B:Prop}
theorem s1Q:Step (wQ N (Exit.then (y.wp P Q) Q) .normal l w) (wC P N y Q l w):=gT
theorem s2Q:Step (wC P N (.seq x y) Q l w) (wC P N x (Exit.then (y.wp P Q) Q) l w):=aQ
theorem s3Q:Step (wC P N (.region id os.toArray false) Q l w) (wL P N os.toArray Q os l w):=aC
theorem s4Q:Step (wC P N .skip Q l w) (wQ N Q .normal l w):=qz
theorem s5Q:Step (wC P N (.block id x) Q l w) (wC P N x (Exit.inBlock id Q) l w):=DY
theorem s6Q:Step (wQ N (Exit.inBlock id Q) .normal l w) (wQ N Q .normal l w):=iw
theorem s7Q:Step (wC P N .ret Q l w) (wQ N Q .ret l w):=nN
theorem s8Q:Step (wQ N (Exit.then K Q) .ret l w) (wQ N Q .ret l w):=gV
theorem s9Q:Step (wQ N (Exit.inBlock id Q) .ret l w) (wQ N Q .ret l w):=Wo
theorem axK:Step (wC P N (.exit id) Q l w) (wQ N Q (.exit id) l w):=ahf
theorem axL:Step (wQ N (Exit.then K Q) (.exit id) l w) (wQ N Q (.exit id) l w):=Pv
theorem axM:Step (wQ N (Exit.inBlock id Q) (.exit id) l w) (wQ N Q .normal l w):=SQ
theorem axN:Step (wL P N ops Q [] l w) (wQ N Q .normal l w):=aco
theorem axO (hc:ev l c=some (.bool true)):Step (wC P N (.cond c x y) Q l w) (wC P N x Q l w):=lF hc
theorem axP (hc:ev l c=some (.bool false)):Step (wC P N (.cond c x y) Q l w) (wC P N y Q l w):=lG hc
theorem axQ (hg:o.guard=some (j,b)/\(ops[j]?).bind (·.dst)=some t:=by exact ⟨rfl,rfl⟩) (hv:lk l t=some u:=by exact rfl) (hr:(yl u==some b)=false/\o.dst=some d/\Nat.blt d N=true:=by exact ⟨rfl,rfl,rfl⟩):Step (wL P N ops Q (o::rest) l w) (wL P N ops Q rest ((d,undef)::l) w):=XE (wg hg.1 hg.2 hv hr.1) hr.2.1 hr.2.2
theorem axR (hg:o.guard=some (j,b)/\(ops[j]?).bind (·.dst)=some t:=by exact ⟨rfl,rfl⟩) (hv:lk l t=some u:=by exact rfl) (hr:(yl u==some b)=false/\o.dst=some d/\Nat.blt d N=true:=by exact ⟨rfl,rfl,rfl⟩):Step (wU P N ops C Qa (o::rest) l) (wU P N ops C Qa rest ((d,undef)::l)):=ahj (wg hg.1 hg.2 hv hr.1) hr.2.1 hr.2.2
theorem axS (hr:Region.ready .any ops listed=[]):Step (wA P N ops Q C n listed l w) (wQ N Q .normal l w):=ahk hr
theorem apS {G:Prop} (h:G:=by first | assumption | exact St.fit (by assumption)):Step (G/\A) A:=And.intro h
end
inductive Steps:Nat->Prop->Prop->Prop
 | z {A:Prop}:Steps 0 A A
 | s {n:Nat} {A B C:Prop}:Step A B->Steps n B C->Steps (n+1) A C
theorem Steps.go {n:Nat} {A B:Prop} (h:Steps n A B):B->A:=by
 induction h with
 | z=>exact id
 | s h _ ih=>exact λb=>h (ih b)
theorem sQ {A B:Prop} (hs:Step A B:=by first | with_reducible exact axN | ((with_reducible apply gLQ);first | exact q1Q | exact q2Q | exact axQ) | with_reducible exact s1Q | with_reducible exact s2Q | with_reducible exact s3Q | with_reducible exact s4Q | with_reducible exact s5Q | with_reducible exact s6Q | with_reducible exact s7Q | with_reducible exact s8Q | with_reducible exact s9Q | with_reducible exact axK | with_reducible exact axL | with_reducible exact axM | ((with_reducible refine axO ?_);exact rfl) | ((with_reducible refine axP ?_);exact rfl) | ((with_reducible apply gUQ);first | exact q3Q | exact q4Q | exact axR) | ((with_reducible apply gQQ);first | exact p1Q | exact axH | exact p2Q | exact axG | exact p3Q | exact axI | exact p0Q | exact axF | exact axJ)):Step A B:=hs
theorem zQ {A B:Prop} (h:B) (hs:Step A B:=by exact sQ):A:=hs h
theorem zN {A B:Prop} (n:Nat) (h:B) (hs:Steps n A B:=by repeat' first | exact Steps.z | apply Steps.s | exact sQ):A:=hs.go h
theorem sQa {A B:Prop} (hs:Step A B:=by first | ((with_reducible apply gAQ);first | exact XV 0 | exact XY 0 | exact XZ 0 | exact XV 1 | exact XY 1 | exact XZ 1 | exact XV 2 | exact XY 2 | exact XZ 2 | exact XV 3 | exact XY 3 | exact XZ 3 | exact XV 4 | exact XY 4 | exact XZ 4 | exact XV 5 | exact XY 5 | exact XZ 5 | exact XV 6 | exact XY 6 | exact XZ 6 | exact XV 7 | exact XY 7 | exact XZ 7 | exact XV 8 | exact XY 8 | exact XZ 8 | exact XV 9 | exact XY 9 | exact XZ 9) | ((with_reducible apply axS);kernel_rfl) | exact apS):Step A B:=hs
theorem bZ {A B:Prop} (h:B) (hs:Step A B:=by exact sQa):A:=hs h
theorem aJ {A B:Prop} (n:Nat) (h:B) (hs:Steps n A B:=by repeat' first | exact Steps.z | apply Steps.s | exact sQa):A:=hs.go h
theorem gM {A B:Prop} (h:B) (hs:Step A B:=by first | ((with_reducible apply gGQ);first | exact XW 0 | exact X0 0 | exact Ii 0 | exact XW 1 | exact X0 1 | exact Ii 1 | exact XW 2 | exact X0 2 | exact Ii 2 | exact XW 3 | exact X0 3 | exact Ii 3 | exact XW 4 | exact X0 4 | exact Ii 4 | exact XW 5 | exact X0 5 | exact Ii 5 | exact XW 6 | exact X0 6 | exact Ii 6 | exact XW 7 | exact X0 7 | exact Ii 7 | exact XW 8 | exact X0 8 | exact Ii 8 | exact XW 9 | exact X0 9 | exact Ii 9) | exact apS):A:=hs h
section
variable {t:TypeId} {row:Array Value}
def tY (P:Program) (t:TypeId) (row:Array Value):Prop:= ∃ z,(∀ w,(zeroValue t).run P w= .ok z w)/\z.cells=row
theorem fF (S:St B w0 w fs) (hz:tY P t row) (h: ∀ b w',St B w0 w' (.blk b row t::fs)->wL P N ops Q rest ((d,.pointer (some ⟨b,0,none⟩))::l) w') (hw:o.guard=none/\o.dst=some d/\Nat.blt d N=true/\o.op= .alloc t:=by exact ⟨rfl,rfl,rfl,rfl⟩):wL P N ops Q (o::rest) l w:=by
 obtain ⟨z,h1,h2⟩:=hz;exact mD (V:=λb=> .pointer (some ⟨b,0,none⟩)) S (wn hw.1) hw.2.1 hw.2.2.1 (jk hw.2.2.2 (h1 w) h2) h
theorem kS {C:World->Prop} {n:Nat} {ls ls':List Bool} (j:Nat) (hi':ops[j]? =some o) (S:St B w0 w fs) (hz:tY P t row) (h: ∀ b w',St B w0 w' (.blk b row t::fs)->C w'/\wA P N ops Q C n ls'.toArray ((d,.pointer (some ⟨b,0,none⟩))::l) w') (hl:qE ls j ls':=by repeat' first | exact qE.z | apply qE.s) (hw:o.guard=none/\o.dst=some d/\Nat.blt d N=true/\o.op= .alloc t:=by exact ⟨rfl,rfl,rfl,rfl⟩):wK P N ops Q C n j ls.toArray l w:=by
 obtain ⟨z,h1,h2⟩:=hz;exact jK (V:=λb=> .pointer (some ⟨b,0,none⟩)) hi' hl.eq S (wn hw.1) hw.2.1 hw.2.2.1 (jk hw.2.2.2 (h1 w) h2) h
end
theorem zr3:tY Tryz.prog 3 #[.int .i64 0]:=⟨_,Tryz.zeroValue3,rfl⟩
theorem D7:tY Tryz.prog 32 #[.int .i64 0,.int .i64 0]:=⟨_,Tryz.zeroValue32,rfl⟩
theorem afT:tY Tryz.prog 35 #[.int .i64 0,.int .i64 0,.int .i64 0,.int .i64 0,.int .i64 0,.int .i64 0,.int .i64 0,.int .i64 0]:=⟨_,Tryz.zeroValue35,rfl⟩
theorem QC:tY Tryz.prog 40 #[.int .i64 0,.bool false,.bool false,.bool false,.bool false,.bool false,.int .i64 0,.int .i64 0,.int .i64 0,.int .i64 0,.int .i64 0,.int .i64 0,.int .i64 0,.int .i64 0,.slice none 0 0,.slice none 0 0,.slice none 0 0,.int .i64 0]:=⟨_,Tryz.zeroValue40,rfl⟩
theorem fD:tY Tryz.prog 43 #[.int .i64 0,.int .i64 0,.int .i64 0,.int .i64 0,.int .i64 0,.slice none 0 0]:=⟨_,Tryz.zeroValue43,rfl⟩
theorem alc:tY Tryz.prog 166 #[.int .i64 0,.bool false,.bool false,.bool false,.bool false,.bool false,.bool false,.bool false,.bool false]:=⟨_,Tryz.zeroValue166,rfl⟩
theorem Zb:tY Tryz.prog 53 #[.int .i64 0,.int .i64 0,.int .i64 0,.int .i64 0,.int .i64 0,.int .i64 0]:=⟨_,Tryz.zeroValue53,rfl⟩
theorem afU:tY Tryz.prog 57 #[.int .i64 0,.int .i64 0,.int .i64 0,.int .i64 0,.int .i64 0,.int .i64 0,.int .i64 0,.int .i64 0,.int .i64 0,.int .i64 0,.int .i64 0]:=⟨_,Tryz.zeroValue57,rfl⟩
theorem sM:tY Tryz.prog 101 #[.int .i64 0,.int .i64 0,.int .i64 0,.int .i64 0]:=⟨_,Tryz.zeroValue101,rfl⟩
theorem axT:tY Tryz.prog 103 #[.int .i64 0,.int .i64 0,.int .i64 0,.int .i64 0,.int .i64 0,.int .i64 0,.int .i64 0]:=⟨_,Tryz.zeroValue103,rfl⟩
theorem axU:tY Tryz.prog 209 #[.int .i64 0,.int .i64 0]:=⟨_,Tryz.zeroValue209,rfl⟩
theorem apT:tY Tryz.prog 212 #[.int .i64 0,.int .i64 0,.int .i64 0,.int .i64 0]:=⟨_,Tryz.zeroValue212,rfl⟩
theorem yP:tY Tryz.prog 83 #[.slice none 0 0,.int .i64 0]:=⟨_,Tryz.zeroValue83,rfl⟩
theorem atV:tY Tryz.prog 87 #[.int .i64 0,.bool false,.slice none 0 0,.int .i64 0,.slice none 0 0,.int .i64 0,.int .i64 0,.int .i64 0,.int .i64 0,.int .i64 0,.int .i64 0,.int .i64 0,.int .i64 0,.bool false,.bool false,.bool false,.bool false,.slice none 0 0,.nilFunc,.int .i64 0]:=⟨_,Tryz.zeroValue87,rfl⟩
theorem EP:tY Tryz.prog 96 #[.pointer none,.int .i64 0]:=⟨_,Tryz.zeroValue96,rfl⟩
theorem abX:tY Tryz.prog 105 #[.int .i64 0,.int .i64 0,.int .i64 0,.int .i64 0,.int .i64 0,.int .i64 0,.int .i64 0,.int .i64 0,.int .i64 0,.int .i64 0,.int .i64 0,.int .i64 0,.int .i64 0,.slice none 0 0,.bool false,.int .i64 0,.int .i64 0,.int .i64 0,.int .i64 0,.int .i64 0,.int .i64 0,.int .i64 0,.int .i64 0]:=⟨_,Tryz.zeroValue105,rfl⟩
theorem wV:tY Tryz.prog 124 #[.int .i64 0,.int .i64 0,.int .i64 0,.int .i64 0,.int .i64 0,.int .i64 0,.int .i64 0,.int .i64 0,.int .i64 0,.int .i64 0]:=⟨_,Tryz.zeroValue124,rfl⟩
theorem atW:tY Tryz.prog 176 #[.nilFunc]:=⟨_,Tryz.zeroValue176,rfl⟩
theorem lH {a b:Nat} (h:a<=b:=by first | assumption | exact Nat.zero_le _ | (dsimp only;omega) | (simp only [List.length_append,List.length_cons,List.length_nil,List.length_drop,List.length_take] at*;omega)):a<=b:=h
inductive Out:List Fact->Nat->Fact->List Fact->Prop
 | z {f:Fact} {fs:List Fact}:Out (f::fs) 0 f fs
 | s {f g:Fact} {fs gs:List Fact} {i:Nat}:Out fs i f gs->Out (g::fs) (i+1) f (g::gs)
theorem Out.eq {fs gs:List Fact} {i:Nat} {f:Fact} (h:Out fs i f gs):fs[i]? =some f/\fs.eraseIdx i=gs:=by
 induction h with
 | z=>exact ⟨rfl,rfl⟩
 | s _ ih=>exact ⟨by simpa using ih.1,by rw [List.eraseIdx_cons_succ,ih.2]⟩
inductive Brs:List Fact->List Nat->List Fact->Prop
 | z {fs:List Fact}:Brs fs [] fs
 | s {fs gs hs:List Fact} {i:Nat} {is:List Nat} {f:Fact}:Out fs i f gs->Brs (f::gs) is hs->Brs fs (i::is) hs
theorem St.dU {gs:List Fact} (S:St B w0 w fs) (is:List Nat) (h:Brs fs is gs:=by repeat' first | exact Brs.z | exact Out.z | apply Brs.s | apply Out.s):St B w0 w gs:=by
 induction h with
 | z=>exact S
 | s h _ ih=>
  obtain ⟨h1,h2⟩:=h.eq;have:=S.bring _ h1;rw [h2] at this;exact ih this
inductive Rl:List Fact->List Nat->List Fact->Prop
 | z {fs:List Fact}:Rl fs [] fs
 | s {fs gs hs:List Fact} {i:Nat} {is:List Nat} {f:Fact}:Out fs i f gs->Rl gs is hs->Rl fs (i::is) hs
theorem St.aR {gs:List Fact} (S:St B w0 w fs) (is:List Nat) (h:Rl fs is gs:=by repeat' first | exact Rl.z | exact Out.z | apply Rl.s | apply Out.s):St B w0 w gs:=by
 induction h with
 | z=>exact S
 | s h _ ih=>
  refine ih ?_;rw [<-h.eq.2];exact S.del _
section
variable {id n m:Nat} {os:List Oper} {gs:List Fact}
theorem aG (n:Nat) (S:St B w0 w.drew gs) (is:List Nat) (h:wA P N os.toArray Q (λw'=>St B w0 w' fs) n (List.replicate n false).toArray l w.drew) (hd:Rl gs is fs:=by repeat' first | exact Rl.z | exact Out.z | apply Rl.s | apply Out.s) (hm:P.follows .mixedOrders=true:=by exact mixed) (hn:os.length=n:=by exact rfl):wC P N (.region id os.toArray true) Q l w:=Ic hm hn (by simp) h
theorem fC (m n:Nat) (S:St B w0 w.drew gs) (is:List Nat) (h:wG P N os.toArray Q (λw'=>St B w0 w' fs) n m (List.replicate m false).toArray l w.drew) (hd:Rl gs is fs:=by repeat' first | exact Rl.z | exact Out.z | apply Rl.s | apply Out.s) (hm:P.follows .mixedOrders=true:=by exact mixed) (hn:os.length=m:=by exact rfl):wC P N (.region id os.toArray true) Q l w:=Ae n hm hn (by simp) h
end
inductive Ca:List Value->Nat->List Value->List Value->Prop
 | n {l:List Value}:Ca l 0 [] l
 | c {x y:Value} {l cs l':List Value}:Ca l 0 cs l'->Ca (x::l) 0 (y::cs) (y::l')
 | s {x:Value} {i:Nat} {l cs l':List Value}:Ca l i cs l'->Ca (x::l) (i+1) cs (x::l')
theorem Ca.spec {l cs l':List Value} {i:Nat} (h:Ca l i cs l'):i+cs.length<=l.length/\l.take i++cs++l.drop (i+cs.length)=l':=by
 induction h with
 | n=>simp
 | c _ ih=>obtain ⟨h1,h2⟩:=ih;simp only [List.take_zero,List.nil_append,Nat.zero_add,List.length_cons,List.cons_append,List.drop_succ_cons] at h1 h2⊢;exact ⟨by omega,by rw [h2]⟩
 | @s x i l cs l' _ ih=>obtain ⟨h1,h2⟩:=ih;refine ⟨by simp;omega,?_⟩;rw [show i+1+cs.length=(i+cs.length)+1 by omega,List.take_succ_cons,List.drop_succ_cons,List.cons_append,List.cons_append,h2]
theorem Ca.eq {l cs l':List Value} {i:Nat} (h:Ca l i cs l'):cK l.toArray i cs=l'.toArray:=by
 obtain ⟨h1,h2⟩:=h.spec;apply Array.toList_inj.1;rw [gU _ _ _ (by simpa using h1)];simpa using h2
section
variable {b m off:Nat} {rw_ rw':List Value} {cs:Array Value} {t ty:TypeId} {x y:Operand}
theorem GQ (i:Nat) (S:St B w0 w fs) (hz:(P.info? ty).map (·.size)=some m) (h: ∀ w',St B w0 w' fs'->wL P N ops Q rest l w') (hw:o.guard=none/\o.dst=none/\o.op= .store ty x y/\ev l x=some (.pointer (some ⟨b,off,none⟩))/\ev l y=some v:=by exact ⟨rfl,rfl,rfl,rfl,rfl⟩) (hi:fs[i]? =some (.blk b rw_.toArray t):=by exact rfl) (hv:v.cells=cs:=by exact rfl) (hm:cs.size=m:=by exact rfl) (h1: ∀ u∈cs.toList,u.oneCell'=true:=by exact bX rfl) (hr:Nat.ble (off+m) rw_.toArray.size=true:=by exact rfl) (hs:Ca rw_ off cs.toList rw':=by repeat' first | exact Ca.n | apply Ca.c | apply Ca.s) (hf:iJ (.blk b rw'.toArray t) fs i fs':=by repeat' first | exact iJ.z | apply iJ.s):wL P N ops Q (o::rest) l w:=EJ i S (wn hw.1) hw.2.1 hw.2.2.1 hw.2.2.2.1 hw.2.2.2.2 hi hv hz hm h1 (Nat.le_of_ble_eq_true hr) hs.eq hf.eq h
end
section
variable {C:World->Prop} {n:Nat} {ls ls':List Bool} {row:Array Value} {t tt:TypeId} {x:Operand}
theorem iK (S:St B w0 w fs) (h: ∀ b w',St B w0 w' (.blk b row t::fs)->wL P N ops Q rest ((d,.pointer (some ⟨b,0,none⟩))::l) w') (hw:o.guard=none/\o.dst=some d/\Nat.blt d N=true/\o.op= .box t x/\ev l x=some (.agg row):=by exact ⟨rfl,rfl,rfl,rfl,rfl⟩):wL P N ops Q (o::rest) l w:=mD (V:=λb=> .pointer (some ⟨b,0,none⟩)) S (wn hw.1) hw.2.1 hw.2.2.1 (abM hw.2.2.2.1 hw.2.2.2.2 rfl) h
theorem Uo (S:St B w0 w fs) (h: ∀ b w',St B w0 w' (.blk b #[v] t::fs)->wL P N ops Q rest ((d,.pointer (some ⟨b,0,none⟩))::l) w') (hw:o.guard=none/\o.dst=some d/\Nat.blt d N=true/\o.op= .box t x/\ev l x=some v:=by exact ⟨rfl,rfl,rfl,rfl,rfl⟩) (hv:v.cells= #[v]:=by exact rfl):wL P N ops Q (o::rest) l w:=mD (V:=λb=> .pointer (some ⟨b,0,none⟩)) S (wn hw.1) hw.2.1 hw.2.2.1 (abM hw.2.2.2.1 hw.2.2.2.2 hv) h
theorem Zc (S:St B w0 w fs) (h: ∀ b w',St B w0 w' (.blk b row tt::fs)->wL P N ops Q rest ((d,.slice (some ⟨b,0,none⟩) 1 1)::l) w') (hw:o.guard=none/\o.dst=some d/\Nat.blt d N=true/\o.op= .buildSlice t 1 [(0,x)].toArray/\ev l x=some (.agg row):=by exact ⟨rfl,rfl,rfl,rfl,rfl⟩) (hu:P.underlying t=some (.slice tt):=by exact Un) (hr:(Instr.buildSlice t 1 [(0,Value.agg row)].toArray).run P w= .ok (.slice (some ⟨w.heap.size,0,none⟩) 1 1) (w.alloc (.cells row tt)):=by kernel_rfl):wL P N ops Q (o::rest) l w:=mD (V:=λb=> .slice (some ⟨b,0,none⟩) 1 1) S (wn hw.1) hw.2.1 hw.2.2.1 (aU (vs:=[(0,.agg row)]) hw.2.2.2.1 ⟨rfl,hw.2.2.2.2,trivial⟩ hr) h
theorem bsI (S:St B w0 w fs) (h: ∀ b w',St B w0 w' (.blk b #[v] tt::fs)->wL P N ops Q rest ((d,.slice (some ⟨b,0,none⟩) 1 1)::l) w') (hw:o.guard=none/\o.dst=some d/\Nat.blt d N=true/\o.op= .buildSlice t 1 [(0,x)].toArray/\ev l x=some v:=by exact ⟨rfl,rfl,rfl,rfl,rfl⟩) (hu:P.underlying t=some (.slice tt):=by exact Un) (hr:(Instr.buildSlice t 1 [(0,v)].toArray).run P w= .ok (.slice (some ⟨w.heap.size,0,none⟩) 1 1) (w.alloc (.cells #[v] tt)):=by kernel_rfl):wL P N ops Q (o::rest) l w:=mD (V:=λb=> .slice (some ⟨b,0,none⟩) 1 1) S (wn hw.1) hw.2.1 hw.2.2.1 (aU (vs:=[(0,v)]) hw.2.2.2.1 ⟨rfl,hw.2.2.2.2,trivial⟩ hr) h
theorem FU (j:Nat) (hi':ops[j]? =some o) (S:St B w0 w fs) (h: ∀ b w',St B w0 w' (.blk b row tt::fs)->C w'/\wA P N ops Q C n ls'.toArray ((d,.slice (some ⟨b,0,none⟩) 1 1)::l) w') (hl:qE ls j ls':=by repeat' first | exact qE.z | apply qE.s) (hw:o.guard=none/\o.dst=some d/\Nat.blt d N=true/\o.op= .buildSlice t 1 [(0,x)].toArray/\ev l x=some (.agg row):=by exact ⟨rfl,rfl,rfl,rfl,rfl⟩) (hu:P.underlying t=some (.slice tt):=by exact Un) (hr:(Instr.buildSlice t 1 [(0,Value.agg row)].toArray).run P w= .ok (.slice (some ⟨w.heap.size,0,none⟩) 1 1) (w.alloc (.cells row tt)):=by kernel_rfl):wK P N ops Q C n j ls.toArray l w:=jK (V:=λb=> .slice (some ⟨b,0,none⟩) 1 1) hi' hl.eq S (wn hw.1) hw.2.1 hw.2.2.1 (aU (vs:=[(0,.agg row)]) hw.2.2.2.1 ⟨rfl,hw.2.2.2.2,trivial⟩ hr) h
end
inductive xB (l:Slots):List Operand->List Value->Prop
 | z:xB l [] []
 | s {x:Operand} {xs:List Operand} {v:Value} {vs:List Value}:ev l x=some v->xB l xs vs->xB l (x::xs) (v::vs)
theorem xB.evs {xs:List Operand} {vs:List Value} (h:xB l xs vs):Pt l xs vs:=by
 induction h with
 | z=>exact trivial
 | s h _ ih=>exact ⟨h,ih⟩
section
variable {f:FuncId} {first cap us vs:List Value} {x:Operand} {xs ys:List Operand} {ts:Array TypeId} {R:Ending->World->Prop}
theorem vR (LZ: ∀ args w,(callFunc f args).run P w= .ok (.enter f args) w) (hc:Calls P f us.toArray w R) (h: ∀ e w',R e w'-> ∃ v,e= .returned v/\wL P N ops Q rest ((d,v)::l) w') (hw:o.guard=none/\o.dst=some d/\Nat.blt d N=true/\o.op= .call { callee:= .value x,args:=xs.toArray,argTypes:=ts }:=by exact ⟨rfl,rfl,rfl,rfl⟩) (hv:ev l x=some (.func (.func f) first.toArray cap.toArray):=by exact rfl) (hx:xB l xs vs:=by repeat' first | exact xB.z | apply xB.s rfl) (hu:first++vs++cap=us:=by exact rfl):wL P N ops Q (o::rest) l w:=Ia (wn hw.1) hw.2.1 hw.2.2.1 (XU hw.2.2.2 hv LZ hx.evs hu) hc h
theorem kI {C:World->Prop} {n:Nat} {ls ls':List Bool} (j:Nat) (hi':ops[j]? =some o) (LZ: ∀ args w,(callFunc f args).run P w= .ok (.enter f args) w) (hc:Calls P f us.toArray w R) (h: ∀ e w',R e w'-> ∃ v,e= .returned v/\C w'/\wA P N ops Q C n ls'.toArray ((d,v)::l) w') (hl:qE ls j ls':=by repeat' first | exact qE.z | apply qE.s) (hw:o.guard=none/\o.dst=some d/\Nat.blt d N=true/\o.op= .call { callee:= .value x,args:=xs.toArray,argTypes:=ts }:=by exact ⟨rfl,rfl,rfl,rfl⟩) (hv:ev l x=some (.func (.func f) first.toArray cap.toArray):=by exact rfl) (hx:xB l xs vs:=by repeat' first | exact xB.z | apply xB.s rfl) (hu:first++vs++cap=us:=by exact rfl):wK P N ops Q C n j ls.toArray l w:=nQ hi' hl.eq (wn hw.1) hw.2.1 hw.2.2.1 (XU hw.2.2.2 hv LZ hx.evs hu) hc h
theorem iY {C:World->Prop} {n:Nat} {ls ls':List Bool} (j:Nat) (hi':ops[j]? =some o) (LZ: ∀ args w,(callFunc f args).run P w= .ok (.enter f args) w) (hc:Calls P f vs.toArray w R) (h: ∀ e w',R e w'-> ∃ v,e= .returned v/\C w'/\wA P N ops Q C n ls'.toArray ((d,v)::l) w') (hl:qE ls j ls':=by repeat' first | exact qE.z | apply qE.s) (hw:o.guard=none/\o.dst=some d/\Nat.blt d N=true/\(o.op= .call { callee:= .value (.func f),args:=xs.toArray,argTypes:=ts }):=by exact ⟨rfl,rfl,rfl,rfl⟩) (hx:Pt l xs vs:=by repeat' first | exact trivial | refine ⟨rfl,?_⟩):wK P N ops Q C n j ls.toArray l w:=nQ hi' hl.eq (wn hw.1) hw.2.1 hw.2.2.1 (iB hw.2.2.2 LZ hx) hc h
theorem Ja {g:Fn} (ho:o.op= .makeFunc g xs.toArray ys.toArray:=by exact rfl) (hx:xB l xs vs:=by repeat' first | exact xB.z | apply xB.s rfl) (hy:xB l ys us:=by repeat' first | exact xB.z | apply xB.s rfl):gW P N l o w (.func g vs.toArray us.toArray):=Kr ho hx.evs hy.evs
end
inductive Na (l:Slots):List (Nat×Operand)->List (Nat×Value)->Prop
 | z:Na l [] []
 | s {i:Nat} {x:Operand} {xs:List (Nat×Operand)} {v:Value} {vs:List (Nat×Value)}:ev l x=some v->Na l xs vs->Na l ((i,x)::xs) ((i,v)::vs)
theorem Na.evp {xs:List (Nat×Operand)} {vs:List (Nat×Value)} (h:Na l xs vs):EvP l xs vs:=by
 induction h with
 | z=>exact trivial
 | s h _ ih=>exact ⟨rfl,h,ih⟩
theorem gD {t:TypeId} {xs:List (Nat×Operand)} {vs:List (Nat×Value)} (ho:o.op= .build t xs.toArray:=by exact rfl) (hx:Na l xs vs:=by repeat' first | exact Na.z | apply Na.s rfl) (hr:(Instr.build t vs.toArray).run P w= .ok v w:=by kernel_rfl):gW P N l o w v:=Dk ho hx.evp hr
section
variable {kd:IntKind} {xo yo:Operand} {x y z:Int} {t tt:TypeId}
theorem gN (ho:o.op= .binOp .add t xo yo tt/\ev l xo=some (.int .i64 x)/\ev l yo=some (.int .i64 y):=by exact ⟨rfl,rfl,rfl⟩) (hz:x+y=z:=by omega) (h: -9223372036854775808<=z/\z<=9223372036854775807:=by omega):gW P N l o w (.int .i64 z):=aK ho.1 ho.2.1 ho.2.2 (yN hz h)
theorem ysu (ho:o.op= .binOp .sub t xo yo tt/\ev l xo=some (.int .i64 x)/\ev l yo=some (.int .i64 y):=by exact ⟨rfl,rfl,rfl⟩) (hz:x-y=z:=by omega) (h: -9223372036854775808<=z/\z<=9223372036854775807:=by omega):gW P N l o w (.int .i64 z):=aK ho.1 ho.2.1 ho.2.2 (asV hz h)
theorem jh {p e:TypeId} {b off n c s:Nat} {i:Int} {xo yo:Operand} (k:Nat) (ho:o.op= .indexAddr p xo yo/\ev l xo=some (.slice (some ⟨b,off,none⟩) n c)/\ev l yo=some (.int kd i):=by exact ⟨rfl,rfl,rfl⟩) (hu:P.underlying p=some (.slice e):=by exact Un) (hz:(P.info? e).map (·.size)=some s:=by exact iiQ) (hik:i=k:=by first | rfl | omega | simp) (hk:k<n:=by first | omega | simp | decide):gW P N l o w (.pointer (some ⟨b,off+k*s,none⟩)):=aT ho.1 ho.2.1 ho.2.2 (Aw k hu hz hik hk)
end
section
variable {b m off:Nat} {row row' cs:Array Value} {t ty:TypeId} {x y:Operand} {C:World->Prop} {n:Nat} {ls ls':List Bool}
theorem jq (i:Nat) (S:St B w0 w fs) (hz:(P.info? ty).map (·.size)=some m) (h: ∀ w',St B w0 w' fs'->wL P N ops Q rest l w') (hw:o.guard=none/\o.dst=none/\o.op= .store ty x y/\ev l x=some (.pointer (some ⟨b,off,none⟩))/\ev l y=some v:=by exact ⟨rfl,rfl,rfl,rfl,rfl⟩) (hi:fs[i]? =some (.blk b row t):=by exact rfl) (hv:v.cells=cs:=by exact rfl) (hm:cs.size=m:=by exact rfl) (h1: ∀ u∈cs.toList,u.oneCell'=true:=by exact bX rfl) (hr:Nat.ble (off+m) row.size=true:=by exact rfl) (hs:cK row off cs.toList=row':=by exact rfl) (hf:iJ (.blk b row' t) fs i fs':=by repeat' first | exact iJ.z | apply iJ.s):wL P N ops Q (o::rest) l w:=EJ i S (wn hw.1) hw.2.1 hw.2.2.1 hw.2.2.2.1 hw.2.2.2.2 hi hv hz hm h1 (Nat.le_of_ble_eq_true hr) hs hf.eq h
theorem stA (i:Nat) (S:St B w0 w fs) (hz:(P.info? ty).map (·.size)=some m) (h: ∀ w',St B w0 w' fs'->wL P N ops Q rest l w') (hw:o.guard=none/\o.dst=none/\o.op= .store ty x y/\ev l x=some (.pointer (some ⟨b,0,none⟩))/\ev l y=some v:=by exact ⟨rfl,rfl,rfl,rfl,rfl⟩) (hi:fs[i]? =some (.blk b row t):=by exact rfl) (hv:v.cells=cs:=by exact rfl) (hm:cs.size=m:=by exact rfl) (h1: ∀ u∈cs.toList,u.oneCell'=true:=by exact bX rfl) (hs:row.size=cs.size:=by exact rfl) (hr:Nat.ble (0+m) row.size=true:=by exact rfl) (hf:iJ (.blk b cs t) fs i fs':=by repeat' first | exact iJ.z | apply iJ.s):wL P N ops Q (o::rest) l w:=EJ i S (wn hw.1) hw.2.1 hw.2.2.1 hw.2.2.2.1 hw.2.2.2.2 hi hv hz hm h1 (Nat.le_of_ble_eq_true hr) (qQ hs) hf.eq h
theorem snz (j:Nat) (hi':ops[j]? =some o) (i:Nat) (S:St B w0 w fs) (hz:(P.info? ty).map (·.size)=some m) (h: ∀ w',St B w0 w' fs'->C w'/\wA P N ops Q C n ls'.toArray l w') (hl:qE ls j ls':=by repeat' first | exact qE.z | apply qE.s) (hw:o.guard=none/\o.dst=none/\o.op= .store ty x y/\ev l x=some (.pointer (some ⟨b,off,none⟩))/\ev l y=some v:=by exact ⟨rfl,rfl,rfl,rfl,rfl⟩) (hi:fs[i]? =some (.blk b row t):=by exact rfl) (hv:v.cells=cs:=by exact rfl) (hm:cs.size=m:=by exact rfl) (h1: ∀ u∈cs.toList,u.oneCell'=true:=by exact bX rfl) (hr:Nat.ble (off+m) row.size=true:=by exact rfl) (hs:cK row off cs.toList=row':=by exact rfl) (hf:iJ (.blk b row' t) fs i fs':=by repeat' first | exact iJ.z | apply iJ.s):wK P N ops Q C n j ls.toArray l w:=tT hi' hl.eq i S (wn hw.1) hw.2.1 hw.2.2.1 hw.2.2.2.1 hw.2.2.2.2 hi hv hz hm h1 (Nat.le_of_ble_eq_true hr) hs hf.eq h
theorem Zd (j:Nat) (hi':ops[j]? =some o) (i:Nat) (S:St B w0 w fs) (hz:(P.info? ty).map (·.size)=some m) (h: ∀ w',St B w0 w' fs'->C w'/\wA P N ops Q C n ls'.toArray l w') (hl:qE ls j ls':=by repeat' first | exact qE.z | apply qE.s) (hw:o.guard=none/\o.dst=none/\o.op= .store ty x y/\ev l x=some (.pointer (some ⟨b,0,none⟩))/\ev l y=some v:=by exact ⟨rfl,rfl,rfl,rfl,rfl⟩) (hi:fs[i]? =some (.blk b row t):=by exact rfl) (hv:v.cells=cs:=by exact rfl) (hm:cs.size=m:=by exact rfl) (h1: ∀ u∈cs.toList,u.oneCell'=true:=by exact bX rfl) (hs:row.size=cs.size:=by exact rfl) (hr:Nat.ble (0+m) row.size=true:=by exact rfl) (hf:iJ (.blk b cs t) fs i fs':=by repeat' first | exact iJ.z | apply iJ.s):wK P N ops Q C n j ls.toArray l w:=tT hi' hl.eq i S (wn hw.1) hw.2.1 hw.2.2.1 hw.2.2.2.1 hw.2.2.2.2 hi hv hz hm h1 (Nat.le_of_ble_eq_true hr) (qQ hs) hf.eq h
end
end
end
section
open ChangeShapes WideShapes ChangeAt RowKit
theorem Rm {α:Type} {enc:α->List Value} {sz:Nat} (hsz: ∀ x,(enc x).length=sz): ∀ (k:Nat) (l:List α),(l.flatMap enc).drop (k*sz)=(l.drop k).flatMap enc
 | 0,l=>by simp
 | k+1,[]=>by simp
 | k+1,x::l=>by rw [List.flatMap_cons,Nat.succ_mul,Nat.add_comm,<-List.drop_drop,List.drop_left' (hsz x),Rm hsz k l];rfl
theorem Rn {α:Type} {enc:α->List Value} {sz:Nat} (hsz: ∀ x,(enc x).length=sz): ∀ (k:Nat) (l:List α),(l.flatMap enc).take (k*sz)=(l.take k).flatMap enc
 | 0,l=>by simp
 | k+1,[]=>by simp
 | k+1,x::l=>by rw [List.flatMap_cons,Nat.succ_mul,Nat.add_comm,List.take_append,hsz x,List.take_of_length_le (by rw [hsz x];omega),Nat.add_sub_cancel_left,Rn hsz k l];rfl
theorem BM {P:Program} {t e:TypeId} {α:Type} {enc:α->List Value} {s:Nat} (hsz: ∀ x,(enc x).length=s) {A:Option Addr} {b:List α} {n c:Nat} {lo hi mx:Option Value} {l k q m c':Nat} (hu:P.underlying t=some (.slice e)) (hz:(P.info? e).map (·.size)=some s) (hb: ∀ w,(Instr.sliceBounds true n c lo hi mx).run P w= .ok (l,k,q) w)
  (hlk:l<=k) (hkn:k<=n) (hkq:k<=q) (hm:k-l=m) (hc:q-l=c'): ∃ A',(∀ w,(Instr.sliceAt t (.slice A n c) lo hi mx).run P w= .ok (.slice A' m c') w)/\(∀ (w:World) (B:Nat),Rd w B s A n (b.flatMap enc)->Rd w B s A' m (((b.drop l).take m).flatMap enc))/\ ∀ a',A'=some a'-> ∃ a,A=some a/\a.block=a'.block:=by
 subst hm;subst hc;obtain ⟨A',h1,h2,h3⟩:=AB (A:=A) hu hz hb hlk hkn hkq;refine ⟨A',h1,λw B hR=>?_,h3⟩
 replace h2:=h2 w B _ hR
 rw [Rm hsz,Rn hsz] at h2;exact h2
end
section
open ChangeShapes WideShapes RowKit
structure Ac where
 kd:Int
 nd:Int
 qu:Int
 at_:Int
 kp:Int
 ek:Int
 ep:Int
 ei:Int
 eb:Int
 eh:Int
 en:Int
def Ac.ints (x:Ac):List Int:=[x.kd,x.nd,x.qu,x.at_,x.kp,x.ek,x.ep,x.ei,x.eb,x.eh,x.en]
def LH (l:List Int):List Value:=l.map (Value.int .i64)
def Ac.cells (x:Ac):List Value:=[iV x.kd,iV x.nd,iV x.qu,iV x.at_,iV x.kp,iV x.ek,iV x.ep,iV x.ei,iV x.eb,iV x.eh,iV x.en]
theorem Ac.ad1 (x:Ac):x.cells=LH x.ints:=rfl
def Ac.get (x:Ac) (i:Nat):Int:=x.ints.getD i 0
theorem Ac.cell (x:Ac) {i:Nat} (h:i<11):x.cells[i]? =some (iV (x.get i)):=by
 rw [Ac.ad1,LH,List.getElem?_map,List.getElem?_eq_getElem (by exact h)];have e:x.get i=x.ints[i]'h:=by simp only [Ac.get,List.getD_eq_getElem?_getD,List.getElem?_eq_getElem (show i<x.ints.length from h),Option.getD_some];rfl
 rw [e];rfl
def bS (kd ek:Int):Option (List (Nat×Int)):=
 if kd=1 then some [(2,3),(1,4)] else if kd=10 then some [(2,3),(1,4)] else if kd=3 then some [(1,4)] else if kd=9 then some [(1,4)]
 else if kd=8 then some [(1,4),(4,100000)] else if kd=4 then some [(3,1048576)] else if kd=5 then some [(3,1048576)] else if kd=6 then some [(3,1048576)]
 else if kd=7 then some [] else if kd=2 then (if ek=1 then some [(1,4),(2,3),(6,3),(7,1073741824),(8,1000000)] else if ek=2 then some [(1,4),(2,3)]
 else if ek=3 then some [(1,4),(2,3),(9,1048576),(10,1073741824)] else none) else none
theorem kinds (kd ek:Int):kd=1\/kd=10\/kd=3\/kd=9\/kd=8\/kd=4\/kd=5\/kd=6\/kd=7\/(kd=2/\ek=1)\/(kd=2/\ek=2)\/(kd=2/\ek=3)\/bS kd ek=none:=by
 by_cases h1:kd=1
 ·simp [h1]
 by_cases h10:kd=10
 ·simp [h10]
 by_cases h3:kd=3
 ·simp [h3]
 by_cases h9:kd=9
 ·simp [h9]
 by_cases h8:kd=8
 ·simp [h8]
 by_cases h4:kd=4
 ·simp [h4]
 by_cases h5:kd=5
 ·simp [h5]
 by_cases h6:kd=6
 ·simp [h6]
 by_cases h7:kd=7
 ·simp [h7]
 by_cases h2:kd=2
 ·by_cases e1:ek=1
  ·simp [h2,e1]
  by_cases e2:ek=2
  ·simp [h2,e2]
  by_cases e3:ek=3
  ·simp [h2,e3]
  simp [bS,h2,e1,e2,e3]
 simp [bS,h2,h1,h10,h3,h9,h8,h4,h5,h6,h7]
theorem OL {kd ek:Int} {l:List (Nat×Int)} (h:bS kd ek=some l): ∀ p∈l,1<=p.1/\p.1<11/\p.1≠5:=by
 rcases kinds kd ek with rfl | rfl | rfl | rfl | rfl | rfl | rfl | rfl | rfl | ⟨rfl,rfl⟩ | ⟨rfl,rfl⟩ | ⟨rfl,rfl⟩ | hn
 all_goals first | (rw [hn] at h;cases h;done) | (simp [bS] at h;subst h;decide)
theorem ad2 {kd ek:Int} {l:List (Nat×Int)} (h:bS kd ek=some l):l.length<=5:=by
 rcases kinds kd ek with rfl | rfl | rfl | rfl | rfl | rfl | rfl | rfl | rfl | ⟨rfl,rfl⟩ | ⟨rfl,rfl⟩ | ⟨rfl,rfl⟩ | hn
 all_goals first | (rw [hn] at h;cases h;done) | (simp [bS] at h;subst h;decide)
def Nb (x:Ac) (p:Nat×Int):Bool:=decide (0<=x.get p.1/\x.get p.1<=p.2)
def yQ (c:List Int) (l:List (Nat×Int)):List Int:=l.foldl (λc p=>c.set p.1 0) c
def fin (x:Ac) (l:List (Nat×Int)):List Int:=(if x.kd=2 then (yQ x.ints l).set 5 0 else yQ x.ints l).set 0 0
def zeros:List Int:=[0,0,0,0,0,0,0,0,0,0,0]
def dH (x:Ac):Int:=match bS x.kd x.ek with
 | none=>3
 | some l=>if l.all (Nb x)=true then (if fin x l=zeros then 0 else 3) else 2
def keep (x:Ac):Ac:=
 if x.kd=1 then ⟨x.kd,x.nd,x.qu,0,0,0,0,0,0,0,0⟩ else if x.kd=10 then ⟨x.kd,x.nd,x.qu,0,0,0,0,0,0,0,0⟩ else if x.kd=3 then ⟨x.kd,x.nd,0,0,0,0,0,0,0,0,0⟩ else if x.kd=9 then ⟨x.kd,x.nd,0,0,0,0,0,0,0,0,0⟩
 else if x.kd=8 then ⟨x.kd,x.nd,0,0,x.kp,0,0,0,0,0,0⟩ else if x.kd=4 then ⟨x.kd,0,0,x.at_,0,0,0,0,0,0,0⟩ else if x.kd=5 then ⟨x.kd,0,0,x.at_,0,0,0,0,0,0,0⟩ else if x.kd=6 then ⟨x.kd,0,0,x.at_,0,0,0,0,0,0,0⟩
 else if x.kd=7 then ⟨x.kd,0,0,0,0,0,0,0,0,0,0⟩ else if x.ek=1 then ⟨x.kd,x.nd,x.qu,0,0,x.ek,x.ep,x.ei,x.eb,0,0⟩ else if x.ek=2 then ⟨x.kd,x.nd,x.qu,0,0,x.ek,0,0,0,0,0⟩ else ⟨x.kd,x.nd,x.qu,0,0,x.ek,0,0,0,x.eh,x.en⟩
theorem ad3 {x:Ac} {l:List (Nat×Int)} (h:bS x.kd x.ek=some l):x.ints=(keep x).ints↔fin x l=zeros:=by
 obtain ⟨kd,nd,qu,at_,kp,ek,ep,ei,eb,eh,en⟩:=x
 rcases kinds kd ek with rfl | rfl | rfl | rfl | rfl | rfl | rfl | rfl | rfl | ⟨rfl,rfl⟩ | ⟨rfl,rfl⟩ | ⟨rfl,rfl⟩ | hn
 all_goals first | (dsimp only at h;rw [hn] at h;cases h) | (simp [bS] at h;subst h;simp [Ac.ints,keep,fin,yQ,zeros];try omega)
theorem ah5 {x y:Ac} (h:x.ints=y.ints):x=y:=by
 obtain ⟨a1,a2,a3,a4,a5,a6,a7,a8,a9,a10,a11⟩:=x;obtain ⟨b1,b2,b3,b4,b5,b6,b7,b8,b9,b10,b11⟩:=y;simpa [Ac.ints] using h
section
variable {x:Ac} {l:List (Nat×Int)}
theorem X4 (h:bS x.kd x.ek=none):dH x=3:=by unfold dH;rw [h]
theorem JD (h:bS x.kd x.ek=some l) (ha: ¬ l.all (Nb x)=true):dH x=2:=by unfold dH;rw [h];exact if_neg ha
theorem OM (h:bS x.kd x.ek=some l) (ha:l.all (Nb x)=true) (hf: ¬ fin x l=zeros):dH x=3:=by unfold dH;rw [h];simp only [if_pos ha,if_neg hf]
theorem aj2 (h:bS x.kd x.ek=some l) (ha:l.all (Nb x)=true) (hf:fin x l=zeros):dH x=0:=by unfold dH;rw [h];simp only [if_pos ha,if_pos hf]
theorem ad4 {k:Nat} {p:Nat×Int} (h:l[k]? =some p) (ha:(l.take k).all (Nb x)=true) (hp:0<=x.get p.1/\x.get p.1<=p.2):(l.take (k+1)).all (Nb x)=true:=by
 rw [List.take_add_one,h,List.all_append,ha];simp [Nb,hp]
theorem X6 {k:Nat} {p:Nat×Int} (h:l[k]? =some p) (hp: ¬ (0<=x.get p.1/\x.get p.1<=p.2)): ¬ l.all (Nb x)=true:=λha=>by
 have:=List.all_eq_true.1 ha p (List.mem_of_getElem? h);simp only [Nb,decide_eq_true_eq] at this;exact hp this
theorem ad5 {c:List Int} {k:Nat} {p:Nat×Int} (h:l[k]? =some p):(yQ c (l.take k)).set p.1 0=yQ c (l.take (k+1)):=by
 unfold yQ;rw [List.take_add_one,h,List.foldl_append];rfl
theorem xO (c:List Int): ∀ (l:List (Nat×Int)),(yQ c l).length=c.length
 | []=>rfl
 | p::l=>by
  show (yQ (c.set p.1 0) l).length=_
  rw [xO _ l,List.length_set]
theorem Rp: ∀ (l:List (Nat×Int)) (c:List Int),(∀ p∈l,1<=p.1)->(yQ c l)[0]? =c[0]?
 | [],_,_=>rfl
 | p::l,c,h=>by
  show (yQ (c.set p.1 0) l)[0]? =_
  rw [Rp l _ λq hq=>h q (List.mem_cons_of_mem _ hq),List.getElem?_set_ne (by have:=h p (List.mem_cons_self ..);omega)]
end
def oP (c:List Int):Array Value:=(LH c).toArray
theorem mE {c:List Int} (h:c.length=11):(oP c).size=11:=by simp [oP,LH,h]
theorem Ze {c:List Int} {i:Nat} {v:Int} (h:c[i]? =some v):(oP c)[i]? =some (iV v):=by simp [oP,LH,h]
theorem AJ {c:List Int} {i:Nat}:(oP c).setIfInBounds i (iV 0)=oP (c.set i 0):=by
 apply Array.toList_inj.1;simp [oP,LH,Array.toList_setIfInBounds,List.map_set]
theorem ah6:flat Tryz.prog 30 57=some (List.replicate 11 (.at_ (.int .i64))):=by kernel_rfl
theorem ah7:H8 Tryz.prog 30 57=true:=by kernel_rfl
theorem aod (xs:List Value):mkV Tryz.prog 57 xs= .agg xs.toArray:=by
 unfold mkV;rw [Tryz.underlying57]
theorem acK {a b:List Int} (ha:a.length=11) (hb:b.length=11) (w:World):(binOp .neq 57 (.agg (oP a)) (.agg (oP b))).run Tryz.prog w= .ok (.bool (!decide (a=b))) w:=by
 have k1:=xM a;have k2:=xM b;rw [ha] at k1;rw [hb] at k2;have h:=wP (P:=Tryz.prog) w ah6 ah7 aod k1 k2;rw [yL (by rw [ha,hb])] at h;exact h
end
end Go.Proofs.YthhnonpehllibaaGreatDoor
