import Derived.Test.YtbffmhpkenoogaaGreatDoorG089c1
import Derived.Test.YtbffmhpkenoogaaGreatDoorG5be7f
import Derived.Test.YtbffmhpkenoogaaGreatDoorG9ac2e
set_option maxRecDepth 100000
set_option maxHeartbeats 8000000
namespace Go.Proofs.YtbffmhpkenoogaaGreatDoor
section
open ChangeShapes WideShapes ChangeAt RowKit
theorem iK {l:Slots} {x:Operand} {v:Value} (h:ev l x=some v):EvO l (some x) (some v):=h
theorem lT {l:Slots}:EvO l none none:=trivial
theorem ajZ {kd:IntKind} {a b:Int} (h:a=b):some (Value.int kd a)=some (Value.int kd b):=by rw [h]
section
variable {P:Program} {w:World} {t e:TypeId} {A:Option Addr} {n c s B:Nat} {xs:List Value} {kd ke kf:IntKind}
theorem oI {i:Int} (k y:Nat) (code:BoundsCode) (hik:i=k) (hy:k<=y) (w:World):(Instr.sliceBound (.int kd i) y code).run P w= .ok k w:=by
 subst hik;have h1:(0:Int)<=k/\(k:Int)<=y:=by omega
 simp [Instr.sliceBound,asIntOf,Sem.run_bind,Result.andThen,h1,hy]
theorem ad5 {i:Int} (l:Nat) (hi:i=l) (h:l<=n) (w:World):(Instr.sliceBounds true n c (some (.int kd i)) none none).run P w= .ok (l,n,c) w:=by
 simp [Instr.sliceBounds,Sem.run_bind,Result.andThen,oI l n _ hi h]
theorem aq2 {i:Int} (k:Nat) (hi:i=k) (h:k<=c) (w:World):(Instr.sliceBounds true n c none (some (.int kd i)) none).run P w= .ok (0,k,c) w:=by
 simp [Instr.sliceBounds,Sem.run_bind,Result.andThen,oI k c _ hi h]
theorem Ti {i j:Int} (l k:Nat) (hi:i=l) (hj:j=k) (hlk:l<=k) (h:k<=c) (w:World):(Instr.sliceBounds true n c (some (.int kd i)) (some (.int ke j)) none).run P w= .ok (l,k,c) w:=by
 simp [Instr.sliceBounds,Sem.run_bind,Result.andThen,oI k c _ hj h,oI l k _ hi hlk]
theorem aaC {j m:Int} (k q:Nat) (hj:j=k) (hm:m=q) (hkq:k<=q) (h:q<=c) (w:World):(Instr.sliceBounds true n c none (some (.int ke j)) (some (.int kf m))).run P w= .ok (0,k,q) w:=by
 simp [Instr.sliceBounds,Sem.run_bind,Result.andThen,oI q c _ hm h,oI k q _ hj hkq]
theorem aa8 {i j m:Int} (l k q:Nat) (hi:i=l) (hj:j=k) (hm:m=q) (hlk:l<=k) (hkq:k<=q) (h:q<=c) (w:World):(Instr.sliceBounds true n c (some (.int kd i)) (some (.int ke j)) (some (.int kf m))).run P w= .ok (l,k,q) w:=by
 simp [Instr.sliceBounds,Sem.run_bind,Result.andThen,oI q c _ hm h,oI k q _ hj hkq,oI l k _ hi hlk]
theorem add_block (a:Addr) (k:Nat):a.block=(a.add k).block:=by
 unfold Addr.add
 split<;>rfl
theorem zS {lo hi mx:Option Value} {l k q:Nat} (hu:P.underlying t=some (.slice e)) (hz:(P.info? e).map (·.size)=some s) (hb: ∀ w,(Instr.sliceBounds true n c lo hi mx).run P w= .ok (l,k,q) w) (hlk:l<=k) (hkn:k<=n) (hkq:k<=q):
  ∃ A',(∀ w,(Instr.sliceAt t (.slice A n c) lo hi mx).run P w= .ok (.slice A' (k-l) (q-l)) w)/\(∀ (w:World) (B:Nat) (xs:List Value),Rd w B s A n xs->Rd w B s A' (k-l) ((xs.drop (l*s)).take ((k-l)*s)))/\ ∀ a',A'=some a'-> ∃ a,A=some a/\a.block=a'.block:=by
 obtain ⟨z,hq,hs⟩: ∃ z,P.info? e=some z/\z.size=s:=by
  cases h:P.info? e with
  | none=>simp [h] at hz
  | some z=>exact ⟨z,rfl,by simpa [h] using hz⟩
 refine ⟨if q=l then A else A.map (·.add (l*s)),λw=>?_,?_,?_⟩
 ·have h1:(sizeOf e).run P w= .ok s w:=by simp [sizeOf,typeInfo,hq,hs,Sem.run_bind,Result.andThen]
  simp [Instr.sliceAt,Instr.slice,run_underlying hu,Sem.run_bind,Result.andThen,hb,h1]
 ·intro w B xs hR;refine ⟨?_,λhn=>?_⟩
  ·rw [List.length_take,List.length_drop,hR.1,<-Nat.sub_mul];exact Nat.min_eq_left (Nat.mul_le_mul_right _ (by omega))
  obtain ⟨b,off,rfl,hb,hcell⟩:=hR.2 (by omega);rw [if_neg (by omega)];refine ⟨b,off+l*s,?_,hb,λj u hu=>?_⟩
  ·simp only [Option.map_some,Option.some.injEq];rw [Go.WideShapes.add_plain]
  rw [Nat.add_assoc];refine hcell _ u ?_;have hj:j< (k-l)*s:=by
   have:=(List.getElem?_eq_some_iff.1 hu).1;rw [List.length_take] at this;omega
  rw [List.getElem?_take_of_lt hj,List.getElem?_drop] at hu;exact hu
 intro a' h
 split at h
 ·exact ⟨a',h,rfl⟩
 cases A with
 | none=>cases h
 | some a=>cases h;exact ⟨a,rfl,add_block a _⟩
theorem XT {lo hi mx:Option Value} {l k q:Nat} (hu:P.underlying t=some (.slice e)) (hz:(P.info? e).map (·.size)=some s) (hb: ∀ w,(Instr.sliceBounds true n c lo hi mx).run P w= .ok (l,k,q) w) (hR:Rd w B s A n xs) (hlk:l<=k) (hkn:k<=n) (hkq:k<=q):
  ∃ A',(∀ w,(Instr.sliceAt t (.slice A n c) lo hi mx).run P w= .ok (.slice A' (k-l) (q-l)) w)/\Rd w B s A' (k-l) ((xs.drop (l*s)).take ((k-l)*s))/\ ∀ a',A'=some a'-> ∃ a,A=some a/\a.block=a'.block:=by
 obtain ⟨A',h1,h2,h3⟩:=zS (A:=A) hu hz hb hlk hkn hkq;exact ⟨A',h1,h2 _ _ _ hR,h3⟩
theorem ab4 {lo hi mx:Option Value} {l k q:Nat} (hu:P.underlying t=some (.slice e)) (hz:(P.info? e).map (·.size)=some s) (hb: ∀ w,(Instr.sliceBounds true n c lo hi mx).run P w= .ok (l,k,q) w) (hR:Rd w B s A n xs) (hlk:l<=k) (hkn:k<=n) (hkq:k<=q):
  ∃ A',(∀ w,(Instr.sliceAt t (.slice A n c) lo hi mx).run P w= .ok (.slice A' (k-l) (q-l)) w)/\Rd w B s A' (k-l) ((xs.drop (l*s)).take ((k-l)*s)):=by
 obtain ⟨A',h1,h2,_⟩:=XT hu hz hb hR hlk hkn hkq;exact ⟨A',h1,h2⟩
theorem ahm {x y:Int} {ts:Array TypeId} {ty:TypeId} {cs:Array Bool}:(builtin .min ts ty cs #[.int kd x,.int kd y]).run P w= .ok (.value (.int kd (min x y))) w:=by
 have:(if y<x then y else x)=min x y:=by split<;>omega
 simp [builtin,run_min_int2,Sem.run_bind,Result.andThen,this]
theorem Sj {x y:Nat} {ts:Array TypeId} {ty:TypeId} {cs:Array Bool}:(builtin .min ts ty cs #[.int kd x,.int kd y]).run P w= .ok (.value (.int kd ((min x y:Nat):Int))) w:=by
 rw [ahm,show min (x:Int) (y:Int)=((min x y:Nat):Int) by omega]
theorem Gc {op:BinOp} {xo yo:Operand} {a b:Array Value} {v:Value} (hg:P.eqGuardType P.depth t=false) (h:(binOp op t (.agg a) (.agg b)).run P w= .ok v w):(do eqGuard op t xo yo (.agg a) (.agg b);binOp op t (.agg a) (.agg b):Sem Value).run P w= .ok v w:=by
 have h1:(eqGuard op t xo yo (.agg a) (.agg b)).run P w= .ok () w:=by
  have hp: ∀ w,(program:Sem Program).run P w= .ok P w:=λ_=>rfl;unfold eqGuard
  cases op<;>first | rfl | simp [hp,Sem.run_bind,Result.andThen,hg]
 rw [Sem.run_bind,h1];exact h
theorem XU {s t:TypeId} {k:IntKind} {x:Int} (hs:(P.underlying s).isSome=true) (ht:P.underlying t=some (.int k)) {z:Int} (hz:k.wrap x=z):(convert s t (.int kd x)).run P w= .ok (.int k z) w:=by
 obtain ⟨ds,hs⟩:=Option.isSome_iff_exists.1 hs;subst hz;simp [convert,Sem.run_bind,run_underlying hs,run_underlying ht,Result.andThen,Conv.intToInt]
theorem u8_in (a:UInt8):0<=(a.toNat:Int)/\(a.toNat:Int)<=255:=by
 have:=a.toNat_lt;omega
theorem M5 {s t:TypeId} {a:UInt8} (hs:P.underlying s=some (.int .u8)) (ht:P.underlying t=some (.int .i64)):(convert s t (.int .u8 (a.toNat:Int))).run P w= .ok (iV (a.toNat:Int)) w:=
 XU (by rw [hs];rfl) ht (wrap64_in (by have:=u8_in a;omega) (by have:=u8_in a;omega))
theorem aa9 {xo yo:Operand} {x z:Int} (hz:x*256=z) (h0:0<=x) (h1:x<=1099511627776):(do eqGuard .shl t xo yo (iV x) (.int .u64 8);binOp .shl t (iV x) (.int .u64 8):Sem Value).run P w= .ok (iV z) w:=by
 subst hz;have:IntKind.i64.wrap (x*256)=x*256:=wrap64_in (by omega) (by omega);simp [binOp,eqGuard_shl,shift_shl_i64,this]
theorem aoB {xo yo:Operand} {v x z:Int} (hz:v*256+x=z) (h0:0<=v) (h1:v<=1099511627776) (h2:0<=x) (h3:x<=255):(do eqGuard .or t xo yo (iV (v*256)) (iV x);binOp .or t (iV (v*256)) (iV x):Sem Value).run P w= .ok (iV z) w:=by
 subst hz;have:=or8 v x h0 h1 h2 h3;simp [binOp,eqGuard_or,intBits_or,this]
theorem Li {b:List UInt8} {lo hi mx:Option Value} {l k q m c':Nat} (hu:P.underlying t=some (.slice e)) (hz:(P.info? e).map (·.size)=some 1) (hb: ∀ w,(Instr.sliceBounds true b.length c lo hi mx).run P w= .ok (l,k,q) w) (hR:Rd w B 1 A b.length (byteCells b))
  (hlk:l<=k) (hkn:k<=b.length) (hkq:k<=q) (hm:k-l=m) (hc:q-l=c'): ∃ A',(∀ w,(Instr.sliceAt t (.slice A b.length c) lo hi mx).run P w= .ok (.slice A' m c') w)/\Rd w B 1 A' m (byteCells ((b.drop l).take m)):=by
 subst hm;subst hc;obtain ⟨A',h1,h2⟩:=ab4 hu hz hb hR hlk hkn hkq;refine ⟨A',h1,?_⟩;rw [Nat.mul_one,Nat.mul_one] at h2;simpa [byteCells,List.map_drop,List.map_take] using h2
theorem ae3 {b:List UInt8} {lo hi mx:Option Value} {l k q m c':Nat} (hu:P.underlying t=some (.slice e)) (hz:(P.info? e).map (·.size)=some 1) (hb: ∀ w,(Instr.sliceBounds true b.length c lo hi mx).run P w= .ok (l,k,q) w)
  (hlk:l<=k) (hkn:k<=b.length) (hkq:k<=q) (hm:k-l=m) (hc:q-l=c'): ∃ A',(∀ w,(Instr.sliceAt t (.slice A b.length c) lo hi mx).run P w= .ok (.slice A' m c') w)/\(∀ (w:World) (B:Nat),Rd w B 1 A b.length (byteCells b)->Rd w B 1 A' m (byteCells ((b.drop l).take m)))/\ ∀ a',A'=some a'-> ∃ a,A=some a/\a.block=a'.block:=by
 subst hm;subst hc;obtain ⟨A',h1,h2,h3⟩:=zS (A:=A) hu hz hb hlk hkn hkq;refine ⟨A',h1,λw B hR=>?_,h3⟩
 replace h2:=h2 w B _ hR
 rw [Nat.mul_one,Nat.mul_one] at h2;simpa [byteCells,List.map_drop,List.map_take] using h2
end
end
section
open ChangeShapes WideShapes RowKit
abbrev fA (s f k:Nat):Prop:= ∀ (b o:Nat) (w:World),(Instr.fieldAt s (.pointer (some ⟨b,o,none⟩)) f).run tP w= .ok (.pointer (some ⟨b,o+k,none⟩)) w
theorem mM:(tP.info? 3).map (·.size)=some 1:=by kernel_rfl
theorem Gs:(tP.info? 4).map (·.size)=some 1:=by kernel_rfl
theorem Tj:(tP.info? 5).map (·.size)=some 1:=by kernel_rfl
theorem aoC:(tP.info? 22).map (·.size)=some 1:=by kernel_rfl
theorem aoD:(tP.info? 23).map (·.size)=some 1:=by kernel_rfl
theorem aoE:(tP.info? 26).map (·.size)=some 1:=by kernel_rfl
theorem aoF:(tP.info? 27).map (·.size)=some 1:=by kernel_rfl
theorem aoG:(tP.info? 29).map (·.size)=some 2:=by kernel_rfl
theorem aj0:fA 29 0 0:=λ_ _ _=>by kernel_rfl
theorem aj1:fA 29 1 1:=λ_ _ _=>by kernel_rfl
theorem iW:(tP.info? 30).map (·.size)=some 2:=by kernel_rfl
theorem aj2:fA 30 0 0:=λ_ _ _=>by kernel_rfl
theorem aj3:fA 30 1 1:=λ_ _ _=>by kernel_rfl
theorem om:(tP.info? 33).map (·.size)=some 8:=by kernel_rfl
theorem aaD:(tP.info? 34).map (·.size)=some 1:=by kernel_rfl
theorem ahn:(tP.info? 35).map (·.size)=some 1:=by kernel_rfl
theorem aho:(tP.info? 36).map (·.size)=some 1:=by kernel_rfl
theorem aoH:(tP.info? 37).map (·.size)=some 18:=by kernel_rfl
theorem aj4:fA 37 0 0:=λ_ _ _=>by kernel_rfl
theorem aj5:fA 37 1 1:=λ_ _ _=>by kernel_rfl
theorem aj6:fA 37 2 6:=λ_ _ _=>by kernel_rfl
theorem aj7:fA 37 3 14:=λ_ _ _=>by kernel_rfl
theorem aj8:fA 37 4 15:=λ_ _ _=>by kernel_rfl
theorem xV:(tP.info? 38).map (·.size)=some 18:=by kernel_rfl
theorem aj9:(tP.info? 38).map (λi=>(i.zero,i.size,i.bytes))=some (some (.agg #[iV 0,.bool false,.bool false,.bool false,.bool false,.bool false,iV 0,iV 0,iV 0,iV 0,iV 0,iV 0,iV 0,iV 0,.slice none 0 0,.slice none 0 0,.slice none 0 0,iV 0]),18,160):=by kernel_rfl
theorem akb:fA 38 0 0:=λ_ _ _=>by kernel_rfl
theorem akc:fA 38 1 1:=λ_ _ _=>by kernel_rfl
theorem akd:fA 38 2 6:=λ_ _ _=>by kernel_rfl
theorem ake:fA 38 3 14:=λ_ _ _=>by kernel_rfl
theorem akf:fA 38 4 15:=λ_ _ _=>by kernel_rfl
theorem akg:fA 38 5 16:=λ_ _ _=>by kernel_rfl
theorem akh:fA 38 6 17:=λ_ _ _=>by kernel_rfl
theorem aoI:(tP.info? 39).map (·.size)=some 1:=by kernel_rfl
theorem vH:(tP.info? 40).map (·.size)=some 1:=by kernel_rfl
theorem aB:(tP.info? 42).map (·.size)=some 6:=by kernel_rfl
theorem aki:(tP.info? 42).map (λi=>(i.zero,i.size,i.bytes))=some (some (.agg #[iV 0,iV 0,iV 0,iV 0,iV 0,.slice none 0 0]),6,64):=by kernel_rfl
theorem Lj:fA 42 0 0:=λ_ _ _=>by kernel_rfl
theorem akj:fA 42 1 1:=λ_ _ _=>by kernel_rfl
theorem akk:fA 42 2 2:=λ_ _ _=>by kernel_rfl
theorem akl:fA 42 3 3:=λ_ _ _=>by kernel_rfl
theorem akm:fA 42 4 4:=λ_ _ _=>by kernel_rfl
theorem abb:fA 42 5 5:=λ_ _ _=>by kernel_rfl
theorem NV:(tP.info? 43).map (·.size)=some 1:=by kernel_rfl
theorem abd:(tP.info? 43).map (λi=>(i.zero,i.size,i.bytes))=some (some (.slice none 0 0),1,24):=by kernel_rfl
theorem NW:(tP.info? 50).map (·.size)=some 1:=by kernel_rfl
theorem NY:(tP.info? 51).map (·.size)=some 1:=by kernel_rfl
theorem DW:(tP.info? 54).map (·.size)=some 9:=by kernel_rfl
theorem ahp:(tP.info? 55).map (·.size)=some 36:=by kernel_rfl
theorem jI:(tP.info? 57).map (·.size)=some 41:=by kernel_rfl
theorem akn:fA 57 0 0:=λ_ _ _=>by kernel_rfl
theorem ako:fA 57 1 1:=λ_ _ _=>by kernel_rfl
theorem akp:fA 57 2 2:=λ_ _ _=>by kernel_rfl
theorem akq:fA 57 3 3:=λ_ _ _=>by kernel_rfl
theorem akr:fA 57 4 4:=λ_ _ _=>by kernel_rfl
theorem aks:fA 57 5 5:=λ_ _ _=>by kernel_rfl
theorem Tk:(tP.info? 73).map (·.size)=some 2:=by kernel_rfl
theorem akt:fA 73 0 0:=λ_ _ _=>by kernel_rfl
theorem aku:fA 73 1 1:=λ_ _ _=>by kernel_rfl
theorem iy:(tP.info? 75).map (·.size)=some 6:=by kernel_rfl
theorem oW:(tP.info? 75).map (λi=>(i.zero,i.size,i.bytes))=some (some (.agg #[iV 0,iV 0,iV 0,iV 0,iV 0,iV 0]),6,48):=by kernel_rfl
theorem akv:fA 75 0 0:=λ_ _ _=>by kernel_rfl
theorem akw:fA 75 1 1:=λ_ _ _=>by kernel_rfl
theorem akx:fA 75 2 2:=λ_ _ _=>by kernel_rfl
theorem aky:fA 75 3 3:=λ_ _ _=>by kernel_rfl
theorem akz:fA 75 4 4:=λ_ _ _=>by kernel_rfl
theorem jR:(tP.info? 77).map (·.size)=some 11:=by kernel_rfl
theorem akA:(tP.info? 77).map (λi=>(i.zero,i.size,i.bytes))=some (some (.agg #[iV 0,iV 0,iV 0,iV 0,iV 0,iV 0,iV 0,iV 0,iV 0,iV 0,iV 0]),11,88):=by kernel_rfl
theorem akB:fA 77 0 0:=λ_ _ _=>by kernel_rfl
theorem akC:fA 77 1 1:=λ_ _ _=>by kernel_rfl
theorem akD:fA 77 2 2:=λ_ _ _=>by kernel_rfl
theorem akE:fA 77 3 3:=λ_ _ _=>by kernel_rfl
theorem akF:fA 77 4 4:=λ_ _ _=>by kernel_rfl
theorem akG:fA 77 5 5:=λ_ _ _=>by kernel_rfl
theorem cZ:(tP.info? 79).map (·.size)=some 4:=by kernel_rfl
theorem akH:(tP.info? 79).map (λi=>(i.zero,i.size,i.bytes))=some (some (.agg #[iV 0,iV 0,iV 0,iV 0]),4,32):=by kernel_rfl
theorem aoJ:(tP.info? 80).map (·.size)=some 7:=by kernel_rfl
theorem akI:fA 80 0 0:=λ_ _ _=>by kernel_rfl
theorem akJ:fA 80 1 1:=λ_ _ _=>by kernel_rfl
theorem aaE:(tP.info? 81).map (·.size)=some 7:=by kernel_rfl
theorem akK:(tP.info? 81).map (λi=>(i.zero,i.size,i.bytes))=some (some (.agg #[iV 0,iV 0,iV 0,iV 0,iV 0,iV 0,iV 0]),7,56):=by kernel_rfl
theorem akL:fA 81 2 5:=λ_ _ _=>by kernel_rfl
theorem akM:(tP.info? 85).map (λi=>(i.zero,i.size,i.bytes))=some (some (.agg #[iV 0,iV 0,iV 0,iV 0,iV 0,iV 0,iV 0,iV 0,iV 0,iV 0,iV 0,iV 0,iV 0,iV 0]),14,112):=by kernel_rfl
theorem DX:(tP.info? 88).map (·.size)=some 2:=by kernel_rfl
theorem Sk:(tP.info? 88).map (λi=>(i.zero,i.size,i.bytes))=some (some (.agg #[iV 0,iV 0]),2,16):=by kernel_rfl
theorem akN:fA 88 0 0:=λ_ _ _=>by kernel_rfl
theorem akO:fA 88 1 1:=λ_ _ _=>by kernel_rfl
theorem Gd:(tP.info? 90).map (·.size)=some 4:=by kernel_rfl
theorem abe:(tP.info? 90).map (λi=>(i.zero,i.size,i.bytes))=some (some (.agg #[iV 0,iV 0,iV 0,iV 0]),4,32):=by kernel_rfl
theorem akP:fA 90 0 0:=λ_ _ _=>by kernel_rfl
theorem akQ:fA 90 1 2:=λ_ _ _=>by kernel_rfl
theorem aoK:(tP.info? 93).map (·.size)=some 2:=by kernel_rfl
theorem akR:(tP.info? 108).map (·.size)=some 5:=by kernel_rfl
theorem ae4:fA 108 0 0:=λ_ _ _=>by kernel_rfl
theorem ae5:fA 108 1 1:=λ_ _ _=>by kernel_rfl
theorem ae6:fA 108 2 2:=λ_ _ _=>by kernel_rfl
theorem ae7:fA 108 3 3:=λ_ _ _=>by kernel_rfl
theorem ae8:fA 108 4 4:=λ_ _ _=>by kernel_rfl
theorem Sl:(tP.info? 109).map (·.size)=some 5:=by kernel_rfl
theorem Wn:fA 109 0 0:=λ_ _ _=>by kernel_rfl
theorem M6:fA 109 1 1:=λ_ _ _=>by kernel_rfl
theorem Wo:fA 109 2 2:=λ_ _ _=>by kernel_rfl
theorem zx:fA 109 3 3:=λ_ _ _=>by kernel_rfl
theorem M7:fA 109 4 4:=λ_ _ _=>by kernel_rfl
theorem DY:(tP.info? 114).map (·.size)=some 1:=by kernel_rfl
theorem AL:(tP.info? 115).map (·.size)=some 1:=by kernel_rfl
theorem yC:(tP.info? 117).map (·.size)=some 2:=by kernel_rfl
theorem ae9:fA 117 0 0:=λ_ _ _=>by kernel_rfl
theorem afa:fA 117 1 1:=λ_ _ _=>by kernel_rfl
theorem Ll:(tP.info? 118).map (·.size)=some 8:=by kernel_rfl
theorem afb:fA 121 0 0:=λ_ _ _=>by kernel_rfl
theorem afc:fA 121 1 1:=λ_ _ _=>by kernel_rfl
theorem afd:fA 121 2 9:=λ_ _ _=>by kernel_rfl
theorem afe:fA 121 3 10:=λ_ _ _=>by kernel_rfl
theorem aff:fA 121 4 50:=λ_ _ _=>by kernel_rfl
theorem abf:(tP.info? 122).map (·.size)=some 1:=by kernel_rfl
theorem Cq:(tP.info? 122).map (λi=>(i.zero,i.size,i.bytes))=some (some (.pointer none),1,8):=by kernel_rfl
theorem eH:(tP.info? 125).map (·.size)=some 2:=by kernel_rfl
theorem Wp:fA 125 0 0:=λ_ _ _=>by kernel_rfl
theorem afg:fA 125 1 1:=λ_ _ _=>by kernel_rfl
theorem abg:(tP.info? 126).map (·.size)=some 4:=by kernel_rfl
theorem oZ:(tP.info? 127).map (·.size)=some 1:=by kernel_rfl
theorem abh:(tP.info? 129).map (·.size)=some 20:=by kernel_rfl
theorem afh:fA 129 0 0:=λ_ _ _=>by kernel_rfl
theorem afi:fA 129 1 1:=λ_ _ _=>by kernel_rfl
theorem afj:fA 129 2 2:=λ_ _ _=>by kernel_rfl
theorem afk:fA 129 3 4:=λ_ _ _=>by kernel_rfl
theorem afl:fA 129 4 5:=λ_ _ _=>by kernel_rfl
theorem afm:fA 129 5 13:=λ_ _ _=>by kernel_rfl
theorem afn:fA 129 6 17:=λ_ _ _=>by kernel_rfl
theorem afo:fA 129 7 18:=λ_ _ _=>by kernel_rfl
theorem afp:fA 129 8 19:=λ_ _ _=>by kernel_rfl
theorem abj:(tP.info? 135).map (·.size)=some 1:=by kernel_rfl
theorem akS:(tP.info? 137).map (·.size)=some 42:=by kernel_rfl
theorem afq:fA 137 0 0:=λ_ _ _=>by kernel_rfl
theorem afr:fA 137 1 41:=λ_ _ _=>by kernel_rfl
theorem akT:(tP.info? 141).map (·.size)=some 41:=by kernel_rfl
theorem afs:fA 141 0 0:=λ_ _ _=>by kernel_rfl
theorem aft:fA 142 0 0:=λ_ _ _=>by kernel_rfl
theorem abk:(tP.info? 157).map (·.size)=some 4:=by kernel_rfl
theorem Wq:fA 157 0 0:=λ_ _ _=>by kernel_rfl
theorem zy:fA 157 1 1:=λ_ _ _=>by kernel_rfl
theorem zA:fA 157 2 2:=λ_ _ _=>by kernel_rfl
theorem Gt:fA 157 3 3:=λ_ _ _=>by kernel_rfl
theorem akU:(tP.info? 162).map (·.size)=some 1:=by kernel_rfl
theorem sD:(tP.info? 164).map (·.size)=some 2:=by kernel_rfl
theorem afu:fA 164 0 0:=λ_ _ _=>by kernel_rfl
theorem afv:fA 164 1 1:=λ_ _ _=>by kernel_rfl
theorem vU:(tP.info? 169).map (·.size)=some 23:=by kernel_rfl
theorem Ws:(tP.info? 169).map (λi=>(i.zero,i.size,i.bytes))=some (some (.agg #[iV 0,iV 0,iV 0,iV 0,iV 0,iV 0,iV 0,iV 0,iV 0,iV 0,iV 0,iV 0,iV 0,.slice none 0 0,.bool false,iV 0,iV 0,iV 0,iV 0,iV 0,iV 0,iV 0,iV 0]),23,200):=by kernel_rfl
theorem afw:fA 169 0 0:=λ_ _ _=>by kernel_rfl
theorem afx:fA 169 1 1:=λ_ _ _=>by kernel_rfl
theorem afy:fA 169 2 2:=λ_ _ _=>by kernel_rfl
theorem afz:fA 169 3 3:=λ_ _ _=>by kernel_rfl
theorem afA:fA 169 4 4:=λ_ _ _=>by kernel_rfl
theorem afB:fA 169 5 5:=λ_ _ _=>by kernel_rfl
theorem afC:fA 169 6 6:=λ_ _ _=>by kernel_rfl
theorem afD:fA 169 7 7:=λ_ _ _=>by kernel_rfl
theorem afE:fA 169 8 13:=λ_ _ _=>by kernel_rfl
theorem afF:fA 169 9 14:=λ_ _ _=>by kernel_rfl
theorem ab5:fA 169 10 15:=λ_ _ _=>by kernel_rfl
theorem ab6:fA 169 11 16:=λ_ _ _=>by kernel_rfl
theorem jS:(tP.info? 205).map (·.size)=some 10:=by kernel_rfl
theorem M8:(tP.info? 205).map (λi=>(i.zero,i.size,i.bytes))=some (some (.agg #[iV 0,iV 0,iV 0,iV 0,iV 0,iV 0,iV 0,iV 0,iV 0,iV 0]),10,80):=by kernel_rfl
theorem afG:fA 205 0 0:=λ_ _ _=>by kernel_rfl
theorem afH:fA 205 1 1:=λ_ _ _=>by kernel_rfl
theorem afI:fA 205 2 2:=λ_ _ _=>by kernel_rfl
theorem afJ:fA 205 3 3:=λ_ _ _=>by kernel_rfl
theorem afK:fA 205 4 4:=λ_ _ _=>by kernel_rfl
theorem abl:(tP.info? 258).map (·.size)=some 1:=by kernel_rfl
theorem aq3 (args:Array Value) (w:World):(callFunc 23 args).run tP w= .ok (.enter 23 args) w:=av Tryz.func23 (by kernel_rfl) rfl args w
theorem aq4 (args:Array Value) (w:World):(callFunc 24 args).run tP w= .ok (.enter 24 args) w:=av Tryz.func24 (by kernel_rfl) rfl args w
theorem al1 (args:Array Value) (w:World):(callFunc 25 args).run tP w= .ok (.enter 25 args) w:=av Tryz.func25 (by kernel_rfl) rfl args w
theorem aq5 (args:Array Value) (w:World):(callFunc 27 args).run tP w= .ok (.enter 27 args) w:=av Tryz.func27 (by kernel_rfl) rfl args w
theorem aq6 (args:Array Value) (w:World):(callFunc 31 args).run tP w= .ok (.enter 31 args) w:=av Tryz.func31 (by kernel_rfl) rfl args w
theorem al2 (args:Array Value) (w:World):(callFunc 35 args).run tP w= .ok (.enter 35 args) w:=av Tryz.func35 (by kernel_rfl) rfl args w
theorem OY (args:Array Value) (w:World):(callFunc 37 args).run tP w= .ok (.enter 37 args) w:=av Tryz.func37 (by kernel_rfl) rfl args w
theorem Tm (args:Array Value) (w:World):(callFunc 39 args).run tP w= .ok (.enter 39 args) w:=av Tryz.func39 (by kernel_rfl) rfl args w
theorem aq7 (args:Array Value) (w:World):(callFunc 44 args).run tP w= .ok (.enter 44 args) w:=av Tryz.func44 (by kernel_rfl) rfl args w
theorem aq8 (args:Array Value) (w:World):(callFunc 45 args).run tP w= .ok (.enter 45 args) w:=av Tryz.func45 (by kernel_rfl) rfl args w
theorem aq9 (args:Array Value) (w:World):(callFunc 46 args).run tP w= .ok (.enter 46 args) w:=av Tryz.func46 (by kernel_rfl) rfl args w
theorem ara (args:Array Value) (w:World):(callFunc 47 args).run tP w= .ok (.enter 47 args) w:=av Tryz.func47 (by kernel_rfl) rfl args w
theorem al3 (args:Array Value) (w:World):(callFunc 48 args).run tP w= .ok (.enter 48 args) w:=av Tryz.func48 (by kernel_rfl) rfl args w
theorem ad6 (args:Array Value) (w:World):(callFunc 50 args).run tP w= .ok (.enter 50 args) w:=av Tryz.func50 (by kernel_rfl) rfl args w
theorem yM (args:Array Value) (w:World):(callFunc 51 args).run tP w= .ok (.enter 51 args) w:=av Tryz.func51 (by kernel_rfl) rfl args w
theorem arb (args:Array Value) (w:World):(callFunc 52 args).run tP w= .ok (.enter 52 args) w:=av Tryz.func52 (by kernel_rfl) rfl args w
theorem al4 (args:Array Value) (w:World):(callFunc 53 args).run tP w= .ok (.enter 53 args) w:=av Tryz.func53 (by kernel_rfl) rfl args w
theorem ard (args:Array Value) (w:World):(callFunc 54 args).run tP w= .ok (.enter 54 args) w:=av Tryz.func54 (by kernel_rfl) rfl args w
theorem arf (args:Array Value) (w:World):(callFunc 55 args).run tP w= .ok (.enter 55 args) w:=av Tryz.func55 (by kernel_rfl) rfl args w
theorem arh (args:Array Value) (w:World):(callFunc 56 args).run tP w= .ok (.enter 56 args) w:=av Tryz.func56 (by kernel_rfl) rfl args w
theorem ari (args:Array Value) (w:World):(callFunc 57 args).run tP w= .ok (.enter 57 args) w:=av Tryz.func57 (by kernel_rfl) rfl args w
theorem arj (args:Array Value) (w:World):(callFunc 58 args).run tP w= .ok (.enter 58 args) w:=av Tryz.func58 (by kernel_rfl) rfl args w
theorem ark (args:Array Value) (w:World):(callFunc 59 args).run tP w= .ok (.enter 59 args) w:=av Tryz.func59 (by kernel_rfl) rfl args w
theorem arn (args:Array Value) (w:World):(callFunc 64 args).run tP w= .ok (.enter 64 args) w:=av Tryz.func64 (by kernel_rfl) rfl args w
theorem al5 (args:Array Value) (w:World):(callFunc 65 args).run tP w= .ok (.enter 65 args) w:=av Tryz.func65 (by kernel_rfl) rfl args w
theorem aro (args:Array Value) (w:World):(callFunc 66 args).run tP w= .ok (.enter 66 args) w:=av Tryz.func66 (by kernel_rfl) rfl args w
theorem OZ (args:Array Value) (w:World):(callFunc 67 args).run tP w= .ok (.enter 67 args) w:=av Tryz.func67 (by kernel_rfl) rfl args w
theorem arp (args:Array Value) (w:World):(callFunc 68 args).run tP w= .ok (.enter 68 args) w:=av Tryz.func68 (by kernel_rfl) rfl args w
theorem wX (args:Array Value) (w:World):(callFunc 69 args).run tP w= .ok (.enter 69 args) w:=av Tryz.func69 (by kernel_rfl) rfl args w
theorem arq (args:Array Value) (w:World):(callFunc 70 args).run tP w= .ok (.enter 70 args) w:=av Tryz.func70 (by kernel_rfl) rfl args w
theorem aie (args:Array Value) (w:World):(callFunc 71 args).run tP w= .ok (.enter 71 args) w:=av Tryz.func71 (by kernel_rfl) rfl args w
theorem aif (args:Array Value) (w:World):(callFunc 72 args).run tP w= .ok (.enter 72 args) w:=av Tryz.func72 (by kernel_rfl) rfl args w
theorem ars (args:Array Value) (w:World):(callFunc 73 args).run tP w= .ok (.enter 73 args) w:=av Tryz.func73 (by kernel_rfl) rfl args w
theorem aru (args:Array Value) (w:World):(callFunc 74 args).run tP w= .ok (.enter 74 args) w:=av Tryz.func74 (by kernel_rfl) rfl args w
theorem arv (args:Array Value) (w:World):(callFunc 75 args).run tP w= .ok (.enter 75 args) w:=av Tryz.func75 (by kernel_rfl) rfl args w
theorem arw (args:Array Value) (w:World):(callFunc 76 args).run tP w= .ok (.enter 76 args) w:=av Tryz.func76 (by kernel_rfl) rfl args w
theorem aii (args:Array Value) (w:World):(callFunc 77 args).run tP w= .ok (.enter 77 args) w:=av Tryz.func77 (by kernel_rfl) rfl args w
theorem arx (args:Array Value) (w:World):(callFunc 78 args).run tP w= .ok (.enter 78 args) w:=av Tryz.func78 (by kernel_rfl) rfl args w
theorem al6 (args:Array Value) (w:World):(callFunc 83 args).run tP w= .ok (.enter 83 args) w:=av Tryz.func83 (by kernel_rfl) rfl args w
theorem arz (args:Array Value) (w:World):(callFunc 84 args).run tP w= .ok (.enter 84 args) w:=av Tryz.func84 (by kernel_rfl) rfl args w
theorem al7 (args:Array Value) (w:World):(callFunc 85 args).run tP w= .ok (.enter 85 args) w:=av Tryz.func85 (by kernel_rfl) rfl args w
theorem al8 (args:Array Value) (w:World):(callFunc 87 args).run tP w= .ok (.enter 87 args) w:=av Tryz.func87 (by kernel_rfl) rfl args w
theorem al9 (args:Array Value) (w:World):(callFunc 88 args).run tP w= .ok (.enter 88 args) w:=av Tryz.func88 (by kernel_rfl) rfl args w
theorem ama (args:Array Value) (w:World):(callFunc 89 args).run tP w= .ok (.enter 89 args) w:=av Tryz.func89 (by kernel_rfl) rfl args w
theorem arA (args:Array Value) (w:World):(callFunc 90 args).run tP w= .ok (.enter 90 args) w:=av Tryz.func90 (by kernel_rfl) rfl args w
theorem arB (args:Array Value) (w:World):(callFunc 91 args).run tP w= .ok (.enter 91 args) w:=av Tryz.func91 (by kernel_rfl) rfl args w
theorem arC (args:Array Value) (w:World):(callFunc 92 args).run tP w= .ok (.enter 92 args) w:=av Tryz.func92 (by kernel_rfl) rfl args w
theorem arD (args:Array Value) (w:World):(callFunc 93 args).run tP w= .ok (.enter 93 args) w:=av Tryz.func93 (by kernel_rfl) rfl args w
theorem amb (args:Array Value) (w:World):(callFunc 94 args).run tP w= .ok (.enter 94 args) w:=av Tryz.func94 (by kernel_rfl) rfl args w
theorem amc (args:Array Value) (w:World):(callFunc 95 args).run tP w= .ok (.enter 95 args) w:=av Tryz.func95 (by kernel_rfl) rfl args w
theorem EG (args:Array Value) (w:World):(callFunc 96 args).run tP w= .ok (.enter 96 args) w:=av Tryz.func96 (by kernel_rfl) rfl args w
theorem Gu (args:Array Value) (w:World):(callFunc 97 args).run tP w= .ok (.enter 97 args) w:=av Tryz.func97 (by kernel_rfl) rfl args w
theorem O1 (args:Array Value) (w:World):(callFunc 98 args).run tP w= .ok (.enter 98 args) w:=av Tryz.func98 (by kernel_rfl) rfl args w
theorem XV (args:Array Value) (w:World):(callFunc 99 args).run tP w= .ok (.enter 99 args) w:=av Tryz.func99 (by kernel_rfl) rfl args w
theorem aoL (args:Array Value) (w:World):(callFunc 100 args).run tP w= .ok (.enter 100 args) w:=av Tryz.func100 (by kernel_rfl) rfl args w
theorem aoM (args:Array Value) (w:World):(callFunc 101 args).run tP w= .ok (.enter 101 args) w:=av Tryz.func101 (by kernel_rfl) rfl args w
theorem ahq (args:Array Value) (w:World):(callFunc 102 args).run tP w= .ok (.enter 102 args) w:=av Tryz.func102 (by kernel_rfl) rfl args w
theorem xW (args:Array Value) (w:World):(callFunc 103 args).run tP w= .ok (.enter 103 args) w:=av Tryz.func103 (by kernel_rfl) rfl args w
theorem aaF (args:Array Value) (w:World):(callFunc 104 args).run tP w= .ok (.enter 104 args) w:=av Tryz.func104 (by kernel_rfl) rfl args w
theorem aoN (args:Array Value) (w:World):(callFunc 105 args).run tP w= .ok (.enter 105 args) w:=av Tryz.func105 (by kernel_rfl) rfl args w
theorem aoO (args:Array Value) (w:World):(callFunc 106 args).run tP w= .ok (.enter 106 args) w:=av Tryz.func106 (by kernel_rfl) rfl args w
theorem aoP (args:Array Value) (w:World):(callFunc 107 args).run tP w= .ok (.enter 107 args) w:=av Tryz.func107 (by kernel_rfl) rfl args w
theorem Gf (args:Array Value) (w:World):(callFunc 108 args).run tP w= .ok (.enter 108 args) w:=av Tryz.func108 (by kernel_rfl) rfl args w
theorem aoQ (args:Array Value) (w:World):(callFunc 109 args).run tP w= .ok (.enter 109 args) w:=av Tryz.func109 (by kernel_rfl) rfl args w
theorem aoR (args:Array Value) (w:World):(callFunc 110 args).run tP w= .ok (.enter 110 args) w:=av Tryz.func110 (by kernel_rfl) rfl args w
theorem Kj (args:Array Value) (w:World):(callFunc 111 args).run tP w= .ok (.enter 111 args) w:=av Tryz.func111 (by kernel_rfl) rfl args w
theorem ahr (args:Array Value) (w:World):(callFunc 112 args).run tP w= .ok (.enter 112 args) w:=av Tryz.func112 (by kernel_rfl) rfl args w
theorem oq (args:Array Value) (w:World):(callFunc 119 args).run tP w= .ok (.enter 119 args) w:=av Tryz.func119 (by kernel_rfl) rfl args w
theorem ahs (args:Array Value) (w:World):(callFunc 120 args).run tP w= .ok (.enter 120 args) w:=av Tryz.func120 (by kernel_rfl) rfl args w
theorem aoS (args:Array Value) (w:World):(callFunc 121 args).run tP w= .ok (.enter 121 args) w:=av Tryz.func121 (by kernel_rfl) rfl args w
theorem aoT (args:Array Value) (w:World):(callFunc 122 args).run tP w= .ok (.enter 122 args) w:=av Tryz.func122 (by kernel_rfl) rfl args w
theorem aoU (args:Array Value) (w:World):(callFunc 123 args).run tP w= .ok (.enter 123 args) w:=av Tryz.func123 (by kernel_rfl) rfl args w
theorem aoV (args:Array Value) (w:World):(callFunc 124 args).run tP w= .ok (.enter 124 args) w:=av Tryz.func124 (by kernel_rfl) rfl args w
theorem aoW (args:Array Value) (w:World):(callFunc 125 args).run tP w= .ok (.enter 125 args) w:=av Tryz.func125 (by kernel_rfl) rfl args w
theorem Tn (args:Array Value) (w:World):(callFunc 127 args).run tP w= .ok (.enter 127 args) w:=av Tryz.func127 (by kernel_rfl) rfl args w
theorem qA (args:Array Value) (w:World):(callFunc 128 args).run tP w= .ok (.enter 128 args) w:=av Tryz.func128 (by kernel_rfl) rfl args w
theorem aoX (args:Array Value) (w:World):(callFunc 129 args).run tP w= .ok (.enter 129 args) w:=av Tryz.func129 (by kernel_rfl) rfl args w
theorem zC (args:Array Value) (w:World):(callFunc 130 args).run tP w= .ok (.enter 130 args) w:=av Tryz.func130 (by kernel_rfl) rfl args w
theorem aoY (args:Array Value) (w:World):(callFunc 131 args).run tP w= .ok (.enter 131 args) w:=av Tryz.func131 (by kernel_rfl) rfl args w
theorem aoZ (args:Array Value) (w:World):(callFunc 132 args).run tP w= .ok (.enter 132 args) w:=av Tryz.func132 (by kernel_rfl) rfl args w
theorem Tp (args:Array Value) (w:World):(callFunc 134 args).run tP w= .ok (.enter 134 args) w:=av Tryz.func134 (by kernel_rfl) rfl args w
theorem DZ (args:Array Value) (w:World):(callFunc 135 args).run tP w= .ok (.enter 135 args) w:=av Tryz.func135 (by kernel_rfl) rfl args w
theorem aht (args:Array Value) (w:World):(callFunc 148 args).run tP w= .ok (.enter 148 args) w:=av Tryz.func148 (by kernel_rfl) rfl args w
theorem NZ (args:Array Value) (w:World):(callFunc 151 args).run tP w= .ok (.enter 151 args) w:=av Tryz.func151 (by kernel_rfl) rfl args w
theorem aaG (args:Array Value) (w:World):(callFunc 152 args).run tP w= .ok (.enter 152 args) w:=av Tryz.func152 (by kernel_rfl) rfl args w
theorem ao0 (args:Array Value) (w:World):(callFunc 153 args).run tP w= .ok (.enter 153 args) w:=av Tryz.func153 (by kernel_rfl) rfl args w
theorem aaH (args:Array Value) (w:World):(callFunc 154 args).run tP w= .ok (.enter 154 args) w:=av Tryz.func154 (by kernel_rfl) rfl args w
theorem Tq (args:Array Value) (w:World):(callFunc 155 args).run tP w= .ok (.enter 155 args) w:=av Tryz.func155 (by kernel_rfl) rfl args w
theorem ao1 (args:Array Value) (w:World):(callFunc 156 args).run tP w= .ok (.enter 156 args) w:=av Tryz.func156 (by kernel_rfl) rfl args w
theorem ao2 (args:Array Value) (w:World):(callFunc 157 args).run tP w= .ok (.enter 157 args) w:=av Tryz.func157 (by kernel_rfl) rfl args w
theorem ahu (args:Array Value) (w:World):(callFunc 158 args).run tP w= .ok (.enter 158 args) w:=av Tryz.func158 (by kernel_rfl) rfl args w
theorem ao3 (args:Array Value) (w:World):(callFunc 159 args).run tP w= .ok (.enter 159 args) w:=av Tryz.func159 (by kernel_rfl) rfl args w
theorem ahv (args:Array Value) (w:World):(callFunc 160 args).run tP w= .ok (.enter 160 args) w:=av Tryz.func160 (by kernel_rfl) rfl args w
theorem ao4 (args:Array Value) (w:World):(callFunc 161 args).run tP w= .ok (.enter 161 args) w:=av Tryz.func161 (by kernel_rfl) rfl args w
theorem ahw (args:Array Value) (w:World):(callFunc 162 args).run tP w= .ok (.enter 162 args) w:=av Tryz.func162 (by kernel_rfl) rfl args w
theorem ao5 (args:Array Value) (w:World):(callFunc 163 args).run tP w= .ok (.enter 163 args) w:=av Tryz.func163 (by kernel_rfl) rfl args w
theorem Gg (args:Array Value) (w:World):(callFunc 164 args).run tP w= .ok (.enter 164 args) w:=av Tryz.func164 (by kernel_rfl) rfl args w
theorem Tt (args:Array Value) (w:World):(callFunc 167 args).run tP w= .ok (.enter 167 args) w:=av Tryz.func167 (by kernel_rfl) rfl args w
theorem N7 (args:Array Value) (w:World):(callFunc 168 args).run tP w= .ok (.enter 168 args) w:=av Tryz.func168 (by kernel_rfl) rfl args w
theorem ao6 (args:Array Value) (w:World):(callFunc 169 args).run tP w= .ok (.enter 169 args) w:=av Tryz.func169 (by kernel_rfl) rfl args w
theorem ao7 (args:Array Value) (w:World):(callFunc 170 args).run tP w= .ok (.enter 170 args) w:=av Tryz.func170 (by kernel_rfl) rfl args w
theorem Tv (args:Array Value) (w:World):(callFunc 171 args).run tP w= .ok (.enter 171 args) w:=av Tryz.func171 (by kernel_rfl) rfl args w
theorem ao8 (args:Array Value) (w:World):(callFunc 172 args).run tP w= .ok (.enter 172 args) w:=av Tryz.func172 (by kernel_rfl) rfl args w
theorem ao9 (args:Array Value) (w:World):(callFunc 173 args).run tP w= .ok (.enter 173 args) w:=av Tryz.func173 (by kernel_rfl) rfl args w
theorem apa (args:Array Value) (w:World):(callFunc 180 args).run tP w= .ok (.enter 180 args) w:=av Tryz.func180 (by kernel_rfl) rfl args w
theorem ahx (args:Array Value) (w:World):(callFunc 181 args).run tP w= .ok (.enter 181 args) w:=av Tryz.func181 (by kernel_rfl) rfl args w
theorem vI (args:Array Value) (w:World):(callFunc 183 args).run tP w= .ok (.enter 183 args) w:=av Tryz.func183 (by kernel_rfl) rfl args w
theorem mixed:tP.follows .mixedOrders=true:=by kernel_rfl
end
section
open ChangeShapes WideShapes ChangeAt RowKit
section
variable {P:Program} {N:Nat} {l:Slots} {o:Oper} {w w' w0:World} {B:Nat} {fs:List Fact}
theorem Wt {f:FuncId} {first cap us:List Value} {x:Operand} {xs:List Operand} {ts:Array TypeId} {vs:List Value} (ho:o.op= .call { callee:= .value x,args:=xs.toArray,argTypes:=ts }) (hv:ev l x=some (.func (.func f) first.toArray cap.toArray))
  (Kt: ∀ args w,(callFunc f args).run P w= .ok (.enter f args) w) (hx:NM l xs vs) (hu:first++vs++cap=us):Enter P N l o w f us:=λa F=>by
 subst hu;have h1:=F.evs hx;unfold execOp;simp only [ho,resolve,F.ev hv,Deferred.ofValue,invoke,Sem.run_bind,Sem.run_pure,Result.andThen_ok,List.map_toArray,h1];simp [Kt]
theorem Jm {f:Fn} {xs ys:List Operand} {vs us:List Value} (ho:o.op= .makeFunc f xs.toArray ys.toArray) (hx:NM l xs vs) (hy:NM l ys us):gK P N l o w (.func f vs.toArray us.toArray):=λa F=>by
 have h1:=F.evs hx;have h2:=F.evs hy;unfold execOp;simp only [ho,List.map_toArray,h1,h2];rfl
theorem abm {b off s n:Nat} {row:Array Value} {t:TypeId} {xs:List Value} (i:Nat) (S:St B w0 w fs) (hi:fs[i]? =some (.blk b row t)) (hl:xs.length=n*s) (hx: ∀ (j:Nat) (u:Value),xs[j]? =some u->row[off+j]? =some u):Rd w w.heap.size s (some ⟨b,off,none⟩) n xs:=
 ⟨hl,λ_=>⟨b,off,rfl,S.lt i hi,λj u hu=>S.cl i hi (hx j u hu)⟩⟩
theorem C9 {base:Nat} {e:TypeId} {size n c:Nat} {A:Option Addr} {xs:List Value} (h:w.ownsRow base e size (.slice A n c) n xs) (hn:0<n): ∃ g,A=some ⟨g,0,none⟩:=by
 rcases h.2 with ⟨_,h0⟩ | ⟨g,cap,cur,hv,_⟩
 ·omega
 exact ⟨g,by injection hv⟩
theorem St.aaI {e e':TypeId} {s s':Nat} {g n c n' c':Nat} {xs xs':List Value} (i:Nat) (S:St B w0 w fs) (hi:fs[i]? =some (.own e s (.slice (some ⟨g,0,none⟩) n c) n xs)) (hu:sM w g w') (ho:w'.ownsRow B e' s' (.slice (some ⟨g,0,none⟩) n' c') n' xs'):
  St B w0 w' (fs.set i (.own e' s' (.slice (some ⟨g,0,none⟩) n' c') n' xs')):=
 S.turn i hi (hu.next S.low (Fact.lS (S.all i _ hi) rfl).1) (Nat.le_of_eq hu.size.symm) (λk _ hk=>hu.block k (λe=>hk (by rw [e];rfl))) ho (λk hk=> .inl hk)
theorem Io {α:Type} {enc:α->List Value} {sz:Nat} (hsz: ∀ x,(enc x).length=sz): ∀ (k:Nat) (l:List α),(l.flatMap enc).take (k*sz)++(l.flatMap enc).drop ((k+1)*sz)=(l.eraseIdx k).flatMap enc
 | 0,[]=>by simp
 | 0,x::l=>by rw [List.flatMap_cons,Nat.zero_mul,List.take_zero,List.nil_append,Nat.zero_add,Nat.one_mul,List.drop_left' (hsz x)];rfl
 | k+1,[]=>by simp
 | k+1,x::l=>by
  rw [List.eraseIdx_cons_succ,List.flatMap_cons,List.flatMap_cons,<-Io hsz k l,Nat.succ_mul k,Nat.succ_mul (k+1),Nat.add_comm _ sz,Nat.add_comm _ sz,List.take_append,List.drop_append,hsz x];rw [List.take_of_length_le (by rw [hsz x];omega),List.drop_of_length_le (by rw [hsz x];omega),Nat.add_sub_cancel_left,Nat.add_sub_cancel_left,List.nil_append,List.append_assoc,Nat.succ_mul k,Nat.add_comm sz]
end
theorem aC {B:Nat} {w0 w:World} {fs:List Fact} {s:Nat} (S:St B w0 w fs):St B w0 w (.bX s none 0 []::fs):=S.cons ⟨Rd.none_,λa h=>by cases h⟩ λk hk=>by cases hk
end
section
open ChangeShapes WideShapes RowKit
inductive Pick (l:Slots):List Nat->Slots->Prop
 | z:Pick l [] []
 | s {k:Nat} {ks:List Nat} {v:Value} {l':Slots}:lk l k=some v->Pick l ks l'->Pick l (k::ks) ((k,v)::l')
theorem Pick.sub {l:Slots} {ks:List Nat} {l':Slots} (h:Pick l ks l'):JQ l l':=by
 induction h with
 | z=>exact trivial
 | s h _ ih=>exact ⟨h,ih⟩
inductive iB (f:Fact):List Fact->Nat->List Fact->Prop
 | z {g:Fact} {fs:List Fact}:iB f (g::fs) 0 (f::fs)
 | s {g:Fact} {fs fs':List Fact} {i:Nat}:iB f fs i fs'->iB f (g::fs) (i+1) (g::fs')
theorem iB.eq {f:Fact} {fs fs':List Fact} {i:Nat} (h:iB f fs i fs'):fs.set i f=fs':=by
 induction h with
 | z=>rfl
 | s _ ih=>rw [List.set_cons_succ,ih]
def ahy:List Nat->List Fact->List Fact
 | [],fs=>fs
 | i::is,fs=>ahy is (fs.eraseIdx i)
theorem St.oJ {B:Nat} {w0 w:World}: ∀ {fs:List Fact} (_:St B w0 w fs) (is:List Nat),St B w0 w (ahy is fs)
 | _,S,[]=>S
 | _,S,i::is=>(St.del i S).oJ is
theorem Ku {α:Type} {enc:α->List Value} {w:World} {B sz n:Nat} {A:Option Addr} {l:List α} (k:Nat) (h:Rd w B sz A n (l.flatMap enc)) (hk:k<n) (hs: ∀ x,(enc x).length=sz:=by exact λ_=>rfl) (hz:Nat.blt 0 sz=true:=by exact rfl): ∃ x,l[k]? =some x:=by
 have h1:=h.1;rw [gX hs] at h1;have h2:l.length=n:=Nat.eq_of_mul_eq_mul_right (Nat.le_of_ble_eq_true hz) h1;exact ⟨_,List.getElem?_eq_getElem (by omega)⟩
section
variable {P:Program} {N:Nat} {l l':Slots} {w w' w0:World} {ops:Array Oper} {o:Oper} {rest:List Oper} {Q:Exit->Act->World->Prop} {d B:Nat} {v p:Value} {fs fs':List Fact} {ex:Exit}
theorem qk (ks:List Nat) (h:wQ N Q .normal l' w) (hp:Pick l ks l':=by repeat' first | exact Pick.z | apply Pick.s rfl):wL P N ops Q [] l w:=aa3 (bO hp.sub h)
theorem cw {c:Code} (ks:List Nat) (h:wC P N c Q l' w) (hp:Pick l ks l':=by repeat' first | exact Pick.z | apply Pick.s rfl):wC P N c Q l w:=bH hp.sub h
section
variable {x:Operand}
theorem ym (ho:o.op= .move x:=by exact rfl) (hx:ev l x=some v:=by exact rfl):gK P N l o w v:=aa4 ho hx
theorem ya (ho:o.op= .assign x:=by exact rfl) (hx:ev l x=some v:=by exact rfl):gK P N l o w v:=PG ho hx
theorem yx {k:Nat} {vs:Array Value} (ho:o.op= .extract x k:=by exact rfl) (hx:ev l x=some (.tuple vs):=by exact rfl) (hk:vs[k]? =some v:=by exact rfl):gK P N l o w v:=XQ ho hx hk
theorem ypT {c y:Operand} (ho:o.op= .pick c x y:=by exact rfl) (hc:ev l c=some (.bool true):=by exact rfl) (hx:ev l x=some v:=by exact rfl):gK P N l o w v:=ab1 ho hc hx
theorem ypF {c y:Operand} (ho:o.op= .pick c x y:=by exact rfl) (hc:ev l c=some (.bool false):=by exact rfl) (hx:ev l y=some v:=by exact rfl):gK P N l o w v:=ab2 ho hc hx
theorem yno {t:TypeId} {b c:Bool} (ho:o.op= .unOp .not t x:=by exact rfl) (hx:ev l x=some (.bool b):=by exact rfl) (hb:(!b)=c:=by exact rfl):gK P N l o w (.bool c):=hb▸aa5 ho hx aoz
theorem uZ {s:TypeId} {f b o0:Nat} {g:Nat->Nat} (o':Nat) (hf: ∀ (b o:Nat) (w:World),(Instr.fieldAt s (.pointer (some ⟨b,o,none⟩)) f).run P w= .ok (.pointer (some ⟨b,g o,none⟩)) w) (ho:o.op= .fieldAddr s x f:=by exact rfl)
  (hx:ev l x=some (.pointer (some ⟨b,o0,none⟩)):=by exact rfl) (he:g o0=o':=by exact rfl):gK P N l o w (.pointer (some ⟨b,o',none⟩)):=he▸FJ ho hx (hf b o0 w)
theorem iU {t:TypeId} (ho:o.op= .build t ([]:List (Nat×Operand)).toArray:=by exact rfl) (hr:(Instr.build t ([]:List (Nat×Value)).toArray).run P w= .ok (.agg #[iV 0,iV 0,iV 0,iV 0,iV 0,.slice none 0 0]) w:=by kernel_rfl):gK P N l o w (.agg #[iV 0,iV 0,iV 0,iV 0,iV 0,.slice none 0 0]):=Ck (vs:=[]) ho trivial hr
theorem yz {t:TypeId} (ho:o.op= .build t ([]:List (Nat×Operand)).toArray:=by exact rfl) (hr:(Instr.build t ([]:List (Nat×Value)).toArray).run P w= .ok v w:=by kernel_rfl):gK P N l o w v:=Ck (vs:=[]) ho trivial hr
end
section
variable {t tt:TypeId} {kd:IntKind} {xo yo:Operand} {x y:Int}
theorem Ba (ho:o.op= .binOp .lss t xo yo tt:=by exact rfl) (hx:ev l xo=some (.int kd x):=by exact rfl) (hy:ev l yo=some (.int kd y):=by exact rfl) (h:x<y:=by decide):gK P N l o w (.bool true):=aO ho hx hy (MU h)
theorem ahz (ho:o.op= .binOp .lss t xo yo tt:=by exact rfl) (hx:ev l xo=some (.int kd x):=by exact rfl) (hy:ev l yo=some (.int kd y):=by exact rfl) (h: ¬ x<y:=by decide):gK P N l o w (.bool false):=aO ho hx hy (MV h)
theorem ahA (h:x=y) (ho:o.op= .binOp .eql t xo yo tt:=by exact rfl) (hx:ev l xo=some (.int kd x):=by exact rfl) (hy:ev l yo=some (.int kd y):=by exact rfl):gK P N l o w (.bool true):=aO ho hx hy (MW h)
theorem aaJ (h: ¬ x=y) (ho:o.op= .binOp .eql t xo yo tt:=by exact rfl) (hx:ev l xo=some (.int kd x):=by exact rfl) (hy:ev l yo=some (.int kd y):=by exact rfl):gK P N l o w (.bool false):=aO ho hx hy (MX h)
theorem apb (ho:o.op= .binOp .neq t xo yo tt:=by exact rfl) (hx:ev l xo=some (.int kd x):=by exact rfl) (hy:ev l yo=some (.int kd y):=by exact rfl) (h:x=y:=by decide):gK P N l o w (.bool false):=aO ho hx hy (Gp h)
end
section
variable {C:World->Prop} {Qa:Act->Prop} {j:Nat} {t:Nat} {u:Value} {x:Operand}
theorem vv (hy:gK P N l o w v) (h:wL P N ops Q rest ((d,v)::l) w) (hw:o.guard=none:=by exact rfl) (hd:o.dst=some d:=by exact rfl) (hN:Nat.blt d N=true:=by exact rfl):wL P N ops Q (o::rest) l w:=DT (wn hw) hd hN hy h
theorem vm (h:wL P N ops Q rest ((d,v)::l) w) (hw:o.guard=none:=by exact rfl) (hd:o.dst=some d:=by exact rfl) (hN:Nat.blt d N=true:=by exact rfl) (ho:o.op= .move x:=by exact rfl) (hx:ev l x=some v:=by exact rfl):wL P N ops Q (o::rest) l w:=DT (wn hw) hd hN (aa4 ho hx) h
theorem va (h:wL P N ops Q rest ((d,v)::l) w) (hw:o.guard=none:=by exact rfl) (hd:o.dst=some d:=by exact rfl) (hN:Nat.blt d N=true:=by exact rfl) (ho:o.op= .assign x:=by exact rfl) (hx:ev l x=some v:=by exact rfl):wL P N ops Q (o::rest) l w:=DT (wn hw) hd hN (PG ho hx) h
theorem vg {b:Bool} (hy:gK P N l o w v) (h:wL P N ops Q rest ((d,v)::l) w) (hg:o.guard=some (j,b):=by exact rfl) (hj:(ops[j]?).bind (·.dst)=some t:=by exact rfl) (hv:lk l t=some u:=by exact rfl) (hr:(yl u==some b)=true:=by exact rfl)
  (hd:o.dst=some d:=by exact rfl) (hN:Nat.blt d N=true:=by exact rfl):wL P N ops Q (o::rest) l w:=DT (wg hg hj hv hr) hd hN hy h
theorem vs {b:Bool} (h:wL P N ops Q rest ((d,undef)::l) w) (hg:o.guard=some (j,b):=by exact rfl) (hj:(ops[j]?).bind (·.dst)=some t:=by exact rfl) (hv:lk l t=some u:=by exact rfl) (hr:(yl u==some b)=false:=by exact rfl) (hd:o.dst=some d:=by exact rfl) (hN:Nat.blt d N=true:=by exact rfl):wL P N ops Q (o::rest) l w:=V5 (wg hg hj hv hr) hd hN h
theorem uv (hy: ∀ w,C w->gK P N l o w v) (h:wU P N ops C Qa rest ((d,v)::l)) (hw:o.guard=none:=by exact rfl) (hd:o.dst=some d:=by exact rfl) (hN:Nat.blt d N=true:=by exact rfl):wU P N ops C Qa (o::rest) l:=Lh (wn hw) hd hN hy h
theorem ug {b:Bool} (hy: ∀ w,C w->gK P N l o w v) (h:wU P N ops C Qa rest ((d,v)::l)) (hg:o.guard=some (j,b):=by exact rfl) (hj:(ops[j]?).bind (·.dst)=some t:=by exact rfl) (hv:lk l t=some u:=by exact rfl) (hr:(yl u==some b)=true:=by exact rfl)
  (hd:o.dst=some d:=by exact rfl) (hN:Nat.blt d N=true:=by exact rfl):wU P N ops C Qa (o::rest) l:=Lh (wg hg hj hv hr) hd hN hy h
theorem ak {n:Nat} {listed listed':Array Bool} (i:Nat) (hi:ops[i]? =some o) (hS:C w) (hy: ∀ w,C w->gK P N l o w v) (h:wA P N ops Q C n listed' ((d,v)::l) w) (hs:Region.noSelect ops=true:=by kernel_rfl) (hf:Region.free .any ops listed i=true:=by kernel_rfl)
  (hr:(Region.ready .any ops listed).contains i=true:=by kernel_rfl) (hl:listed.setIfInBounds i true=listed':=by exact rfl) (hw:o.guard=none:=by exact rfl) (hd:o.dst=some d:=by exact rfl) (hN:Nat.blt d N=true:=by exact rfl):wA P N ops Q C (n+1) listed l w:=Cm hi hs hf hr hS hl (wn hw) hd hN hy h
theorem gk {n m:Nat} {listed listed':Array Bool} (i:Nat) (hi:ops[i]? =some o) (hS:C w) (hy: ∀ w,C w->gK P N l o w v) (h:wG P N ops Q C n m listed' ((d,v)::l) w) (hs:Region.noSelect ops=true:=by kernel_rfl) (hf:Region.free .any ops listed i=true:=by kernel_rfl)
  (hr:(Region.ready .any ops listed).contains i=true:=by kernel_rfl) (hnl:listed.getD n true=false:=by exact rfl) (hni:vT ops n i=true:=by kernel_rfl) (hne:Nat.beq n i=false:=by exact rfl) (hl:listed.setIfInBounds i true=listed':=by exact rfl) (hw:o.guard=none:=by exact rfl)
  (hd:o.dst=some d:=by exact rfl) (hN:Nat.blt d N=true:=by exact rfl):wG P N ops Q C n (m+1) listed l w:=Co hi hs hf hr hnl hni hne hS hl (wn hw) hd hN hy h
theorem aU {n:Nat} {listed:Array Bool} (r:Nat) (h:wK P N ops Q C n r listed l w) (hr:Region.ready .any ops listed=[r]:=by kernel_rfl):wA P N ops Q C (n+1) listed l w:=ajY hr h
end
section
variable {b m f:Nat} {row row' cs:Array Value} {t ty:TypeId} {x y:Operand} {ds:TypeDesc} {z u:Value}
theorem sa (i:Nat) (S:St B w0 w fs) (hz:(P.info? ty).map (·.size)=some m) (h: ∀ w',St B w0 w' fs'->wL P N ops Q rest l w') (hw:o.guard=none:=by exact rfl) (hd:o.dst=none:=by exact rfl) (ho:o.op= .store ty x y:=by exact rfl)
  (hx:ev l x=some (.pointer (some ⟨b,0,none⟩)):=by exact rfl) (hy:ev l y=some v:=by exact rfl) (hi:fs[i]? =some (.blk b row t):=by exact rfl) (hv:v.cells=cs:=by exact rfl) (hm:cs.size=m:=by exact rfl)
  (h1:cs.toList.all (·.oneCell')=true:=by exact rfl) (hr:Nat.ble m row.size=true:=by exact rfl) (hs:row.size=cs.size:=by exact rfl) (hf:iB (.blk b cs t) fs i fs':=by repeat' first | exact iB.z | apply iB.s):wL P N ops Q (o::rest) l w:=
 DU i S (wn hw) hd ho hx hy hi hv hz hm (bT h1) (by rw [Nat.zero_add];exact Nat.le_of_ble_eq_true hr) (qz hs) hf.eq h
theorem sr {off:Nat} {row':Array Value} (i:Nat) (S:St B w0 w fs) (hz:(P.info? ty).map (·.size)=some m) (h: ∀ w',St B w0 w' fs'->wL P N ops Q rest l w') (hw:o.guard=none:=by exact rfl) (hd:o.dst=none:=by exact rfl) (ho:o.op= .store ty x y:=by exact rfl)
  (hx:ev l x=some (.pointer (some ⟨b,off,none⟩)):=by exact rfl) (hy:ev l y=some v:=by exact rfl) (hi:fs[i]? =some (.blk b row t):=by exact rfl) (hv:v.cells=cs:=by exact rfl) (hm:cs.size=m:=by exact rfl)
  (h1:cs.toList.all (·.oneCell')=true:=by exact rfl) (hr:Nat.ble (off+m) row.size=true:=by exact rfl) (hs:bZ row off cs.toList=row':=by exact rfl) (hf:iB (.blk b row' t) fs i fs':=by repeat' first | exact iB.z | apply iB.s):wL P N ops Q (o::rest) l w:=
 DU i S (wn hw) hd ho hx hy hi hv hz hm (bT h1) (Nat.le_of_ble_eq_true hr) hs hf.eq h
theorem sn {C:World->Prop} {n:Nat} {listed listed':Array Bool} (j:Nat) (hi':ops[j]? =some o) (i:Nat) (S:St B w0 w fs) (hz:(P.info? ty).map (·.size)=some m) (h: ∀ w',St B w0 w' fs'->C w'/\wA P N ops Q C n listed' l w') (hl:listed.setIfInBounds j true=listed':=by exact rfl)
  (hw:o.guard=none:=by exact rfl) (hd:o.dst=none:=by exact rfl) (ho:o.op= .store ty x y:=by exact rfl) (hx:ev l x=some (.pointer (some ⟨b,0,none⟩)):=by exact rfl) (hy:ev l y=some v:=by exact rfl) (hi:fs[i]? =some (.blk b row t):=by exact rfl) (hv:v.cells=cs:=by exact rfl)
  (hm:cs.size=m:=by exact rfl) (h1:cs.toList.all (·.oneCell')=true:=by exact rfl) (hr:Nat.ble m row.size=true:=by exact rfl) (hs:row.size=cs.size:=by exact rfl) (hf:iB (.blk b cs t) fs i fs':=by repeat' first | exact iB.z | apply iB.s):wK P N ops Q C n j listed l w:=
 sO hi' hl i S (wn hw) hd ho hx hy hi hv hz hm (bT h1) (by rw [Nat.zero_add];exact Nat.le_of_ble_eq_true hr) (qz hs) hf.eq h
theorem wY {vs:List Value} {R:Ending->World->Prop} {xs:List Operand} {ts:Array TypeId} {j tg:Nat} {bb:Bool} (Kt: ∀ args w,(callFunc f args).run P w= .ok (.enter f args) w) (hc:Calls P f vs.toArray w R) (h: ∀ e w',R e w'-> ∃ v,e= .returned v/\wL P N ops Q rest ((d,v)::l) w')
  (hg:o.guard=some (j,bb):=by exact rfl) (hj:(ops[j]?).bind (·.dst)=some tg:=by exact rfl) (hv:lk l tg=some u:=by exact rfl) (hr:(yl u==some bb)=true:=by exact rfl) (hd:o.dst=some d:=by exact rfl) (hN:Nat.blt d N=true:=by exact rfl)
  (ho:o.op= .call { callee:= .value (.func f),args:=xs.toArray,argTypes:=ts }:=by exact rfl) (hx:NM l xs vs:=by repeat' first | exact trivial | refine ⟨rfl,?_⟩):wL P N ops Q (o::rest) l w:=Gn (wg hg hj hv hr) hd hN (iO ho Kt hx) hc h
theorem nb {row:Array Value} (S:St B w0 w fs) (h: ∀ b w',St B w0 w' (.blk b row t::fs)->wL P N ops Q rest ((d,.pointer (some ⟨b,0,none⟩))::l) w') (hw:o.guard=none:=by exact rfl) (hd:o.dst=some d:=by exact rfl)
  (hN:Nat.blt d N=true:=by exact rfl) (ho:o.op= .box t x:=by exact rfl) (hx:ev l x=some p:=by exact rfl) (hc:p.cells=row:=by exact rfl):wL P N ops Q (o::rest) l w:=lZ (V:=λb=> .pointer (some ⟨b,0,none⟩)) S (wn hw) hd hN (aay ho hx hc) h
theorem dG {vs:List Value} {R:Ending->World->Prop} {xs:List Operand} {ts:Array TypeId} (Kt: ∀ args w,(callFunc f args).run P w= .ok (.enter f args) w) (hc:Calls P f vs.toArray w R) (h: ∀ e w',R e w'-> ∃ v,e= .returned v/\wL P N ops Q rest ((d,v)::l) w')
  (hw:o.guard=none:=by exact rfl) (hd:o.dst=some d:=by exact rfl) (hN:Nat.blt d N=true:=by exact rfl) (ho:o.op= .call { callee:= .value (.func f),args:=xs.toArray,argTypes:=ts }:=by exact rfl) (hx:NM l xs vs:=by repeat' first | exact trivial | refine ⟨rfl,?_⟩):
  wL P N ops Q (o::rest) l w:=Gn (wn hw) hd hN (iO ho Kt hx) hc h
theorem cab {vs:List Value} {xs:List Operand} {ts:Array TypeId} (Kt: ∀ args w,(callFunc f args).run P w= .ok (.enter f args) w) (S:St B w0 w fs) (hc:Calls P f vs.toArray w λe w'=>e= .returned v/\Below w.heap.size w w') (h: ∀ w',St B w0 w' fs->wL P N ops Q rest ((d,v)::l) w')
  (hw:o.guard=none:=by exact rfl) (hd:o.dst=some d:=by exact rfl) (hN:Nat.blt d N=true:=by exact rfl) (ho:o.op= .call { callee:= .value (.func f),args:=xs.toArray,argTypes:=ts }:=by exact rfl) (hx:NM l xs vs:=by repeat' first | exact trivial | refine ⟨rfl,?_⟩):
  wL P N ops Q (o::rest) l w:=Gn (wn hw) hd hN (iO ho Kt hx) hc λ_ w' h'=>⟨v,h'.1,h w' (S.on h'.2)⟩
theorem pt {fn:Func} {R:Ending->World->Prop} {j:Nat} (hR:R (.returned (qy [v])) w) (hr:fn.results=[ResultVar.tmp j].toArray:=by exact rfl) (h2:lk l j=some v:=by exact rfl):wQ N (bodyPost P fn R) .ret l w:=dH (vs:=[v]) hr ⟨h2,trivial⟩ hR
theorem fZ {fn:Func} {c:Code} {vs:List Value} {R:Ending->World->Prop} (N:Nat) (hf:P.funcs[f]? =some fn) (h:wC P N c (bodyPost P fn R) (ents 0 vs) w) (hb:fn.body=some c:=by exact rfl) (hn:fn.ntmps=N:=by exact rfl) (hN:Nat.ble vs.length N=true:=by exact rfl):Calls P f vs.toArray w R:=FC hf hb hn hN h
end
section
theorem AO {c6 c8:Code} {q3:Exit->Act->World->Prop} {o4:Operand} {i10:Nat} {os9:List Oper} (h:wL P N os9.toArray (Exit.then (c8.wp P q3) q3) os9 l w) (hc0:ev l o4=some (.bool true):=by exact rfl):wQ N (Exit.then ((Code.cond o4 (Code.seq (Code.region i10 os9.toArray false) c8) c6).wp P q3) q3) .normal l w:=gG (kX hc0 (aT (aH h)))
theorem Tw {c5:Code} {q3:Exit->Act->World->Prop} {i7:Nat} {os6:List Oper} (h:wL P N os6.toArray (Exit.then (c5.wp P q3) q3) os6 l w):wQ N (Exit.then ((Code.seq (Code.region i7 os6.toArray false) c5).wp P q3) q3) .normal l w:=gG (aT (aH h))
theorem Sm {c5 c7:Code} {q3:Exit->Act->World->Prop} {i9:Nat} {os8:List Oper} (h:wL P N os8.toArray (Exit.then (c7.wp P (Exit.then (c5.wp P q3) q3)) (Exit.then (c5.wp P q3) q3)) os8 l w):wQ N (Exit.then ((Code.seq (Code.seq (Code.region i9 os8.toArray false) c7) c5).wp P q3) q3) .normal l w:=gG (aT (aT (aH h)))
theorem aij {q3:Exit->Act->World->Prop} (h:wQ N q3 .ret l w):wQ N (Exit.then (Code.ret.wp P q3) q3) .normal l w:=gG (nC h)
theorem ab7 {c5 c10:Code} {q8:Exit->Act->World->Prop} {o4:Operand} {i12:Nat} {ad7:List Oper} (h:wL P N ad7.toArray (Exit.then (c10.wp P q8) q8) ad7 l w) (hc0:ev l o4=some (.bool false):=by exact rfl):wQ N (Exit.then ((Code.cond o4 c5 Code.skip).wp P (Exit.then ((Code.seq (Code.region i12 ad7.toArray false) c10).wp P q8) q8)) (Exit.then ((Code.seq (Code.region i12 ad7.toArray false) c10).wp P q8) q8)) .normal l w:=gG (kY hc0 (pW (gG (aT (aH h)))))
theorem arE {c4:Code} {q2:Exit->Act->World->Prop} {i6:Nat} {os5:List Oper} (h:wL P N os5.toArray (Exit.then (c4.wp P q2) q2) os5 l w):wC P N (Code.seq (Code.region i6 os5.toArray false) c4) q2 l w:=aT (aH h)
end
end
end
section
open ChangeShapes WideShapes ChangeAt RowKit
section
variable {P:Program} {N:Nat} {l:Slots} {w w' w0:World} {B:Nat} {fs fs':List Fact} {ops:Array Oper} {o:Oper} {rest:List Oper} {Q:Exit->Act->World->Prop} {v:Value} {d:Nat}
theorem Rd.abn {e:TypeId} {s n c:Nat} {A:Option Addr} {xs:List Value} (h:ny w B e s A n c xs):Rd w w.heap.size s A n xs:=by
 obtain ⟨h1,h2,h3,⟨rfl,h4⟩ | ⟨g,o,cur,rfl,h4,h5,h6,h7⟩⟩:=h
 ·exact ⟨h1,λhn=>absurd hn (by omega)⟩
 refine ⟨h1,λ_=>⟨g,o,rfl,(Array.getElem?_eq_some_iff.1 h5).1,λj u hu=>?_⟩⟩;rw [<-h7] at hu;have hj:j<n*s:=by
  have:=(List.getElem?_eq_some_iff.1 hu).1;rw [List.length_take] at this;omega
 rw [List.getElem?_take_of_lt hj,List.getElem?_drop] at hu;rw [cell_of_row w g (o+j) _ e (0,0) h5];simpa using hu
theorem ny.vR (w:World) (B:Nat) (e:TypeId) (s:Nat):ny w B e s none 0 0 []:=⟨by simp,Nat.le_refl _,Nat.zero_le _,.inl ⟨rfl,rfl⟩⟩
theorem ny.sj {e:TypeId} {s n c:Nat} {A:Option Addr} {xs:List Value} (h:w.ownsRow B e s (.slice A n c) n xs):ny w B e s A n c xs:=by
 obtain ⟨h1,⟨h2,rfl⟩ | ⟨g,cap,cur,hv,hg,hh,hnc,hcm,hsz,htk⟩⟩:=h
 ·injection h2 with a b c'
  subst a;subst c';exact ⟨h1,Nat.le_refl _,Nat.zero_le _,.inl ⟨rfl,rfl⟩⟩
 injection hv with a b c'
 subst a;subst c';exact ⟨h1,hnc,hcm,.inr ⟨g,0,cur,rfl,hg,hh,by omega,by simpa using htk⟩⟩
theorem ny.cut {e:TypeId} {s n c k:Nat} {A:Option Addr} {xs:List Value} (h:ny w B e s A n c xs) (hk:k<=n):ny w B e s (if c=k then A else A.map (·.add (k*s))) (n-k) (c-k) (xs.drop (k*s)):=by
 obtain ⟨h1,h2,h3,h4⟩:=h;refine ⟨by rw [List.length_drop,h1,Nat.sub_mul],by omega,by omega,?_⟩
 rcases h4 with ⟨rfl,h4⟩ | ⟨g,o,cur,rfl,h4,h5,h6,h7⟩
 ·exact .inl ⟨by split<;>rfl,by omega⟩
 refine .inr ?_;by_cases hc:c=k
 ·rw [if_pos hc];have hn:n=k:=by omega
  refine ⟨g,o,cur,rfl,h4,h5,by rw [show c-k=0 by omega];omega,?_⟩;rw [show n-k=0 by omega,Nat.zero_mul,List.take_zero,<-h7,hn,List.drop_take,Nat.sub_self,List.take_zero]
 rw [if_neg hc];refine ⟨g,o+k*s,cur,by simp [Addr.add],h4,h5,?_,?_⟩
 ·have:k*s+(c-k)*s=c*s:=by rw [<-Nat.add_mul];congr 1;omega
  omega
 rw [<-h7,List.drop_take,List.drop_drop,<-Nat.sub_mul]
theorem JW (w:World) (B:Nat) (t ty e:TypeId) (i:TypeInfo) (z:Value) (size bytes:Nat) (ht:P.underlying t=some (.slice e)) (hi:P.info? e=some i) (hz:i.zero=some z)
    (hsize:i.size=size) (hby:i.bytes=bytes) (hzs:z.cells.size=size) (hsz:0<size) (A:Option Addr) (n c:Nat) (xs:List Value) (hown:ny w B e size A n c xs)
    (a:Addr) (m c2:Nat) (news:List Value) (hl:news.length=m*size) (hnews: ∀ j u,news[j]? =some u->w.cell? (a.add j)=some u) (h1: ∀ u∈news,u.oneCell'=true)
    (h63:n+m<=maxLen) (hbytes:(n+m)*bytes<=140737488355328) (hbase:B<=w.heap.size) (hm:0<m):
    ∃ A' c' w',(Builtin.append_ #[t,t] ty #[.slice A n c,.slice (some a) m c2]).run P w= .ok (.slice A' (n+m) c') w'/\ny w' B e size A' (n+m) c' (xs++news)/\w.grownBy w' (A.map (·.block))/\
      (A'.map (·.block)=A.map (·.block)\/A'.map (·.block)=some w.heap.size):=by
  subst hsize;subst hby;have hsmall:n+m<=9223372036854775807:=by simp only [maxLen] at h63;omega
  have hrd:=Rd.abn hown;obtain ⟨hx1,hx2,hx3,hx4⟩:=hown;have hlen:(xs++news).length=(n+m)*i.size:=by rw [List.length_append,hx1,hl,Nat.add_mul]
  have grown: ∀ (old:Nat),old<n+m-> ∀ (row:Option Nat),
      ny (w.drew.alloc (.cells (xs.toArray++news.toArray++Builtin.zeroCells z.cells (grownCap w (n+m) old e-(n+m))) e)) B e i.size (some ⟨w.heap.size,0,none⟩) (n+m) (grownCap w (n+m) old e) (xs++news)/\
      w.grownBy (w.drew.alloc (.cells (xs.toArray++news.toArray++Builtin.zeroCells z.cells (grownCap w (n+m) old e-(n+m))) e)) row:=by
    intro old ho row;have hge:=grownCap_ge w (n+m) old e;have hcm:grownCap w (n+m) old e<=maxLen:=grownCap_le_maxLen w (n+m) old e h63;refine ⟨⟨hlen,hge,hcm,.inr ⟨w.heap.size,0,_,rfl,hbase,heap_alloc_new w.drew _,?_,?_⟩⟩,⟨rfl,rfl,rfl,by simp,λk hk _=>heap_alloc_old w.drew _ hk⟩⟩
    · simp only [Array.size_append,List.size_toArray,size_zeroCells,hzs,hx1,hl,<-Nat.add_mul]
      rw [Nat.zero_add];refine Nat.mul_le_mul_right _ ?_;omega
    · simp only [Array.toList_append,List.append_assoc,List.drop_zero]
      rw [<-List.append_assoc,<-hlen];exact List.take_left
  rcases hx4 with ⟨rfl,rfl⟩ | ⟨g,of,cur,rfl,hg,hh,hcs,htake⟩
  · have hn0:n=0:=by omega
    subst hn0;have hx:xs=[]:=List.eq_nil_of_length_eq_zero (by simpa using hx1);subst hx;have hr:=run_append_nil (P:=P) w t ty e i z ht hi hz a m c2 news hl hnews (by omega) (by omega) (by have hb:=hbytes;simp only [Nat.zero_add] at hb;omega);have hgr:=grown 0 (by omega) none;simp only [Nat.zero_add,List.nil_append,Array.empty_append] at hgr⊢;exact ⟨_,_,_,hr,hgr.1,hgr.2,Or.inr rfl⟩
  · by_cases hroom:n+m<=c
    · have hle:(n+m)*i.size<=c*i.size:=Nat.mul_le_mul_right _ hroom
      have hfit:of+n*i.size+news.length<=cur.size:=by rw [hl,Nat.add_assoc,<-Nat.add_mul];omega
      have hb:fE w g cur e:=⟨hh⟩;have hr:=run_append_room_cells (P:=P) (w:=w) t ty e i ht hi g of n c a m c2 news hl hnews h1 hroom
        (λj hj=>by rw [hb.cell (k:=of+n*i.size+j) (Array.getElem?_eq_getElem (by omega))];rfl) (λj _=>hb.free _)
      have hb':=jk news (of+n*i.size) hb;refine ⟨_,_,_,hr,⟨hlen,hroom,hx3,.inr ⟨g,of,_,rfl,hg,hb'.blk,by rw [mq];exact hcs,?_⟩⟩,?_,Or.inl rfl⟩
      · rw [gI _ _ _ hfit,<-hlen]
        have e1:(cur.toList.take (of+n*i.size)).drop of=xs:=by rw [<-htake,List.drop_take];congr 1;omega
        have e2:of<=(cur.toList.take (of+n*i.size)).length:=by rw [List.length_take,Array.length_toList];omega
        rw [List.append_assoc,List.drop_append_of_le_length e2,e1,<-List.append_assoc];exact List.take_left
      · have hu:=jl g news (of+n*i.size) w
        exact ⟨hu.os,hu.tape,hu.output,Nat.le_of_eq hu.size.symm,λk _ hk=>hu.block k (λe=>hk (by simp [e]))⟩
    · have hr:=run_append_grow (P:=P) w t ty e i z ht hi hz ⟨g,of,none⟩ n c xs hx1 (λj u hu=>by
          have hj:j<n*i.size:=by have:=(List.getElem?_eq_some_iff.1 hu).1;omega
          obtain ⟨b,off,e1,_,hc⟩:=hrd.2 (Nat.pos_of_ne_zero λh0=>by subst h0;omega)
          injection e1 with e1
          injection e1 with e1 e2
          subst e1;subst e2;rw [Go.WideShapes.add_plain];exact hc j u hu) a m c2 news hl hnews (by omega) (by omega) (growslice_fits (by omega) hbytes)
      have hgr:=grown c (by omega) (some g);exact ⟨_,_,_,hr,hgr.1,hgr.2,Or.inr rfl⟩
theorem St.has {f:Fact} (S:St B w0 w fs) (h:f∈fs):f.holds B w:=by
 obtain ⟨i,hi⟩:=List.mem_iff_getElem?.1 h;exact S.all i f hi
theorem St.hblk {b:Nat} {row:Array Value} {t:TypeId} (S:St B w0 w fs) (h:Fact.blk b row t∈fs):fE w b row t:=(S.has h).2
def Fact.apart (f g:Fact):Prop:= ∀ k,f.foot=some k->g.foot≠some k
theorem Fact.apart.symm {f g:Fact} (h:f.apart g):g.apart f:=λk h1 h2=>h k h2 h1
theorem St.iff:St B w0 w fs↔Below B w0 w/\B<=w.heap.size/\(∀ f∈fs,f.holds B w)/\fs.Pairwise Fact.apart:=by
 constructor
 ·intro S;refine ⟨S.low,S.base,λf hf=>S.has hf,List.pairwise_iff_getElem.2 λi j hi hj hij=>?_⟩;exact S.sep i j _ _ (by omega) (List.getElem?_eq_getElem hi) (List.getElem?_eq_getElem hj)
 rintro ⟨h1,h2,h3,h4⟩;refine ⟨h1,h2,λi f hf=>h3 f (List.mem_of_getElem? hf),λi j f g hij hi hj=>?_⟩;obtain ⟨hi1,rfl⟩:=List.getElem?_eq_some_iff.1 hi;obtain ⟨hj1,rfl⟩:=List.getElem?_eq_some_iff.1 hj
 rcases Nat.lt_or_gt_of_ne hij with h | h
 ·exact List.pairwise_iff_getElem.1 h4 i j hi1 hj1 h
 exact (List.pairwise_iff_getElem.1 h4 j i hj1 hi1 h).symm
theorem St.perm {gs:List Fact} (S:St B w0 w fs) (h:fs.Perm gs):St B w0 w gs:=by
 obtain ⟨h1,h2,h3,h4⟩:=St.iff.1 S;exact St.iff.2 ⟨h1,h2,λf hf=>h3 f (h.mem_iff.2 hf),(h.pairwise_iff λh=>h.symm).1 h4⟩
theorem St.sub {gs:List Fact} (S:St B w0 w fs) (h:gs.Sublist fs):St B w0 w gs:=by
 obtain ⟨h1,h2,h3,h4⟩:=St.iff.1 S;exact St.iff.2 ⟨h1,h2,λf hf=>h3 f (h.mem hf),h4.sublist h⟩
theorem St.aaK {e:TypeId} {s n c:Nat} {A:Option Addr} {xs:List Value} (i:Nat) (S:St B w0 w fs) (hi:fs[i]? =some (.off e s A n c xs)):ny w B e s A n c xs:=S.all i _ hi
theorem St.apc {e:TypeId} {s n c:Nat} {A:Option Addr} {xs:List Value} (i:Nat) (S:St B w0 w fs) (hi:fs[i]? =some (.off e s A n c xs)):Rd w w.heap.size s A n xs:=Rd.abn (S.aaK i hi)
theorem St.akV {e:TypeId} {s n c:Nat} {A:Option Addr} {xs:List Value} (i k:Nat) (S:St B w0 w fs) (hi:fs[i]? =some (.off e s A n c xs)) (hk:k<=n):
  St B w0 w (fs.set i (.off e s (if c=k then A else A.map (·.add (k*s))) (n-k) (c-k) (xs.drop (k*s)))):=by
 refine S.turn i hi S.low (Nat.le_refl _) (λ_ _ _=>rfl) ((S.aaK i hi).cut hk) λk' hk'=> .inl ?_
 cases A with
 | none=>split at hk'<;>cases hk'
 | some a=>
  show some a.block=some k'
  split at hk'
  ·exact hk'
  have:(a.add (k*s)).block=a.block:=by unfold Addr.add;split<;>rfl
  rw [<-this];exact hk'
theorem St.akW {e:TypeId} {s n c n' c':Nat} {A A':Option Addr} {xs xs':List Value} (i:Nat) (S:St B w0 w fs) (hi:fs[i]? =some (.off e s A n c xs)) (hg:w.grownBy w' (A.map (·.block))) (ho:ny w' B e s A' n' c' xs')
  (hat:A'.map (·.block)=A.map (·.block)\/A'.map (·.block)=some w.heap.size):St B w0 w' (fs.set i (.off e s A' n' c' xs')):=by
 have h:=S.all i _ hi;refine S.turn i hi (S.low.grown hg S.base (λk hk=>(Fact.lS h hk).1)) hg.size (λk hk hne=>hg.block k hk (λe=>hne e.symm)) ho (λk hk=>?_);have hk':A'.map (·.block)=some k:=hk
 rcases hat with h1 | h1
 ·exact .inl (by rw [<-hk',h1];rfl)
 rw [hk'] at h1
 cases h1;exact .inr (Nat.le_refl _)
theorem St.AP (S:St B w0 w fs) (e:TypeId) (s:Nat):St B w0 w (.off e s none 0 0 []::fs):=S.cons (ny.vR w B e s) λk hk=>by cases hk
end
section
variable {P:Program} {N:Nat} {l:Slots} {w w' w0:World} {B m n i:Nat} {fs fs':List Fact} {ops:Array Oper} {o:Oper} {rest:List Oper} {Q:Exit->Act->World->Prop} {C:World->Prop} {listed listed':Array Bool} {v:Value} {d:Nat}
theorem XW {x y:Operand} {t e:TypeId} {z:Value} {size bytes k q c c0 Br:Nat} {A0 A:Option Addr} {xs news xs':List Value} (hi':ops[i]? =some o) (hl:listed.setIfInBounds i true=listed') (j:Nat) (S:St B w0 w fs) (hw:Wanted N ops l o true) (hd:o.dst=some d) (hN:Nat.blt d N=true)
  (ho:o.op= .call { callee:= .builtin .append,args:= #[x,y],argTypes:= #[t,t] }) (hx:ev l x=some (.slice A0 k c0)) (hy:ev l y=some (.slice A q c)) (hi:fs[j]? =some (.off e size A0 k c0 xs)) (hr:Rd w Br size A q news) (hq:0<q)
  (ht:P.underlying t=some (.slice e)) (XR:(P.info? e).map (λi=>(i.zero,i.size,i.bytes))=some (some z,size,bytes)) (hzs:z.cells.size=size) (hsz:0<size) (h1: ∀ u∈news,u.oneCell'=true) (h63:k+q<=maxLen) (hbytes:(k+q)*bytes<=140737488355328)
  (hxs:xs++news=xs') (h: ∀ A' c' w',St B w0 w' (fs.set j (.off e size A' (k+q) c' xs'))->C w'/\wG P N ops Q C n m listed' ((d,.slice A' (k+q) c')::l) w'):wH P N ops Q C n m i listed l w:=by
 subst hxs;obtain ⟨j0,hj0,hz,hs,hb⟩:=info_parts XR;obtain ⟨bb,oo,rfl,_,hc⟩:=hr.2 hq;obtain ⟨A',c',w',hrun,h2,h3,h4⟩:=JW (P:=P) w B t o.type e j0 z size bytes ht hj0 hz hs hb hzs hsz A0 k c0 xs (S.aaK j hi) ⟨bb,oo,none⟩ q c news hr.1 (λa u hu=>by rw [Go.WideShapes.add_plain];exact hc a u hu) h1 h63 hbytes S.base hq;exact aaB hi' hl hw hd hN (EF (xs:=[x,y]) (vs:=[.slice A0 k c0,.slice (some ⟨bb,oo,none⟩) q c]) ho ⟨hx,hy,trivial⟩ (λcs=>by simp [builtin,hrun,Sem.run_bind,Result.andThen])) (h A' c' w' (S.akW j hi h3 h2 h4))
end
end
section
open ChangeShapes WideShapes RowKit
inductive kS (b:Nat):List Fact->Array Value->TypeId->Prop
 | z {row:Array Value} {t:TypeId} {fs:List Fact}:kS b (.blk b row t::fs) row t
 | s {row:Array Value} {t:TypeId} {f:Fact} {fs:List Fact}:kS b fs row t->kS b (f::fs) row t
theorem kS.at_ {b:Nat} {fs:List Fact} {row:Array Value} {t:TypeId} (h:kS b fs row t): ∃ i:Nat,fs[i]? =some (Fact.blk b row t):=by
 induction h with
 | z=>exact ⟨0,rfl⟩
 | s _ ih=>obtain ⟨i,hi⟩:=ih;exact ⟨i+1,by simpa using hi⟩
inductive Bb:List Fact->List Fact->Prop
 | r {fs:List Fact}:Bb fs fs
 | k {f:Fact} {fs gs:List Fact}:Bb fs gs->Bb (f::fs) (f::gs)
 | d {f:Fact} {fs gs:List Fact}:Bb fs gs->Bb fs (f::gs)
 | a {fs gs:List Fact}:Bb fs (fs++gs)
theorem Bb.sub {fs gs:List Fact} (h:Bb fs gs):fs.Sublist gs:=by
 induction h with
 | r=>exact List.Sublist.refl _
 | k _ ih=>exact ih.cons_cons _
 | d _ ih=>exact ih.cons _
 | a=>exact List.sublist_append_left _ _
theorem Sn {t:TypeId} {ds:TypeDesc} (h:Tryz.prog.underlying t=some ds:=by with_reducible first | exact Tryz.underlying3 | exact Tryz.underlying42 | exact Tryz.underlying40 | exact Tryz.underlying77 | exact Tryz.underlying43 | exact Tryz.underlying122 | exact Tryz.underlying79 | exact Tryz.underlying205 | exact Tryz.underlying75 | exact Tryz.underlying164 | exact Tryz.underlying114 | exact Tryz.underlying240 | exact Tryz.underlying125 | exact Tryz.underlying86 | exact Tryz.underlying115 | exact Tryz.underlying50 | exact Tryz.underlying26 | exact Tryz.underlying51 | exact Tryz.underlying57 | exact Tryz.underlying127 | exact Tryz.underlying4 | exact Tryz.underlying34 | exact Tryz.underlying123 | exact Tryz.underlying169 | exact Tryz.underlying111 | exact Tryz.underlying33 | exact Tryz.underlying208 | exact Tryz.underlying176 | exact Tryz.underlying38 | exact Tryz.underlying146 | exact Tryz.underlying31 | exact Tryz.underlying30 | exact Tryz.underlying88 | exact Tryz.underlying23 | exact Tryz.underlying81 | exact Tryz.underlying35 | exact Tryz.underlying36 | exact Tryz.underlying135 | exact Tryz.underlying158 | exact Tryz.underlying239 | exact Tryz.underlying90 | exact Tryz.underlying126 | exact Tryz.underlying258 | exact Tryz.underlying5 | exact Tryz.underlying119 | exact Tryz.underlying118 | exact Tryz.underlying55 | exact Tryz.underlying54 | exact Tryz.underlying162 | exact Tryz.underlying73 | exact Tryz.underlying188 | exact Tryz.underlying22 | exact Tryz.underlying109 | exact Tryz.underlying117 | exact Tryz.underlying157 | exact Tryz.underlying129 | exact Tryz.underlying28):Tryz.prog.underlying t=some ds:=h
theorem iiQ {t:TypeId} {m:Nat} (h:(Tryz.prog.info? t).map (·.size)=some m:=by with_reducible first | exact aB | exact akR | exact jR | exact mM | exact cZ | exact aoG | exact aoK | exact iy | exact jS | exact jI | exact eH | exact NY | exact sD | exact iW | exact akS | exact aoJ | exact aoH | exact akU | exact vU | exact om | exact xV | exact Gs | exact vH | exact akT | exact Tj | exact oZ | exact aoI | exact abf | exact Gd | exact DW | exact aoE | exact DX | exact yC | exact aoC | exact aoD | exact AL | exact DY | exact aaE | exact NV | exact Tk | exact NW | exact ahn | exact Ll | exact aoF | exact Sl | exact abh | exact aaD | exact abj | exact abg | exact aho | exact abk | exact abl | exact ahp):(Tryz.prog.info? t).map (·.size)=some m:=h
section
variable {P:Program} {N:Nat} {l l':Slots} {w w' w0:World} {ops:Array Oper} {o:Oper} {rest:List Oper} {Q:Exit->Act->World->Prop} {d B:Nat} {v p:Value} {fs fs':List Fact} {ex:Exit}
section
variable {x y:Operand} {t tt s:TypeId} {ds:TypeDesc} {b k f o0 n c m:Nat} {g:Nat->Nat} {row:Array Value} {A:Option Addr} {e:TypeId}
theorem zfa (ho:o.op= .fieldAddr s x f/\ev l x=some (.pointer (some ⟨b,o0,none⟩)):=by exact ⟨rfl,rfl⟩) (hf: ∀ (b o:Nat) (w:World),(Instr.fieldAt s (.pointer (some ⟨b,o,none⟩)) f).run P w= .ok (.pointer (some ⟨b,g o,none⟩)) w:=by with_reducible first | exact ae4 | exact abb | exact Lj | exact aft | exact akj | exact akB | exact afo | exact afk | exact akG | exact ae5 | exact akC | exact afj | exact afb | exact akv | exact afh | exact afz | exact afi | exact ae7 | exact akq | exact afG | exact akD | exact ae8 | exact akr | exact afq | exact akl | exact afc | exact aj2 | exact akE | exact akm | exact ae6 | exact afd | exact afx | exact afJ | exact ake | exact akz | exact aj3 | exact afA | exact aj0 | exact aj1 | exact akI | exact aff | exact akk | exact afn | exact afI | exact akn | exact akp | exact afl | exact ako | exact afy | exact akw | exact akN | exact aku | exact afr | exact afC | exact akP | exact afB | exact akF | exact akx | exact aky | exact akt | exact afs | exact zy | exact zA | exact zx | exact afw | exact afm | exact afD | exact akh | exact aj4 | exact akQ | exact afK | exact afp | exact afF | exact ab5 | exact akO | exact afe | exact akf | exact akg | exact aks | exact afu | exact Gt | exact afH | exact aj5 | exact aj8 | exact M6 | exact M7 | exact afE | exact Wp | exact akJ | exact akL | exact afv | exact aj6 | exact aj7 | exact ae9 | exact afa | exact ab6 | exact Wq | exact Wo | exact Wn | exact afg | exact akb | exact akd | exact akc):gK P N l o w (.pointer (some ⟨b,g o0,none⟩)):=FJ ho.1 ho.2 (hf b o0 w)
theorem zld (ho:o.op= .load t x/\ev l x=some (.pointer (some ⟨b,k,none⟩)):=by exact ⟨rfl,rfl⟩) (hu:P.underlying t=some ds:=by exact Sn) (hd:ds.isRow=false:=by exact rfl) (S:St B w0 w fs:=by assumption) (hf:kS b fs row tt:=by repeat' first | exact kS.z | apply kS.s) (hk:row[k]? =some v:=by exact rfl):gK P N l o w v:=by
 obtain ⟨i,hi⟩:=hf.at_;exact au ho.1 ho.2 (ay hu hd (St.cl i S hi hk))
theorem zlr (ho:o.op= .load t x/\ev l x=some (.pointer (some ⟨b,0,none⟩)):=by exact ⟨rfl,rfl⟩) (hu:P.underlying t=some ds:=by exact Sn) (hd:ds.isRow=true:=by exact rfl) (S:St B w0 w fs:=by assumption) (hf:kS b fs row tt:=by repeat' first | exact kS.z | apply kS.s) (hz:(P.info? t).map (·.size)=some m:=by exact iiQ) (hm:row.size=m:=by exact rfl):gK P N l o w (.agg row):=by
 obtain ⟨i,hi⟩:=hf.at_;exact au ho.1 ho.2 (nQ i S hi hu hd hz hm)
theorem zln (ho:o.op= .call { callee:= .builtin .len,args:= #[x],argTypes:= #[t] }/\ev l x=some (.slice A n c):=by exact ⟨rfl,rfl⟩) (hu:P.underlying t=some (.slice e):=by exact Sn):gK P N l o w (.int .i64 ((n:Nat):Int)):=nT (xs:=[x]) (vs:=[_]) ho.1 ⟨ho.2,trivial⟩ λ_=>aaA rfl hu
theorem znl (ho:o.op= .nilCheck x:=by exact rfl) (hx:ev l x=some p:=by exact rfl) (hp:match p with | .pointer (some _)=>True | .func (.func _) _ _=>True | .func (.via ..) _ _=>True | _=>False:=by exact trivial):gK P N l o w p:=aow ho hx hp
section
variable {kd:IntKind} {xo yo:Operand} {x y:Int}
theorem apd (ho:o.op= .binOp .lss t xo yo tt/\ev l xo=some (.int kd x)/\ev l yo=some (.int kd y):=by exact ⟨rfl,rfl,rfl⟩) (h:x<y:=by first | assumption | decide):gK P N l o w (.bool true):=aO ho.1 ho.2.1 ho.2.2 (MU h)
theorem ape (ho:o.op= .binOp .lss t xo yo tt/\ev l xo=some (.int kd x)/\ev l yo=some (.int kd y):=by exact ⟨rfl,rfl,rfl⟩) (h: ¬ x<y:=by first | assumption | decide):gK P N l o w (.bool false):=aO ho.1 ho.2.1 ho.2.2 (MV h)
theorem apf (ho:o.op= .binOp .leq t xo yo tt/\ev l xo=some (.int kd x)/\ev l yo=some (.int kd y):=by exact ⟨rfl,rfl,rfl⟩) (h:x<=y:=by first | assumption | decide):gK P N l o w (.bool true):=aO ho.1 ho.2.1 ho.2.2 (V6 h)
theorem apg (ho:o.op= .binOp .leq t xo yo tt/\ev l xo=some (.int kd x)/\ev l yo=some (.int kd y):=by exact ⟨rfl,rfl,rfl⟩) (h: ¬ x<=y:=by first | assumption | decide):gK P N l o w (.bool false):=aO ho.1 ho.2.1 ho.2.2 (V7 h)
theorem aph (ho:o.op= .binOp .gtr t xo yo tt/\ev l xo=some (.int kd x)/\ev l yo=some (.int kd y):=by exact ⟨rfl,rfl,rfl⟩) (h:y<x:=by first | assumption | decide):gK P N l o w (.bool true):=aO ho.1 ho.2.1 ho.2.2 (V8 h)
theorem apj (ho:o.op= .binOp .gtr t xo yo tt/\ev l xo=some (.int kd x)/\ev l yo=some (.int kd y):=by exact ⟨rfl,rfl,rfl⟩) (h: ¬ y<x:=by first | assumption | decide):gK P N l o w (.bool false):=aO ho.1 ho.2.1 ho.2.2 (V9 h)
theorem apk (ho:o.op= .binOp .geq t xo yo tt/\ev l xo=some (.int kd x)/\ev l yo=some (.int kd y):=by exact ⟨rfl,rfl,rfl⟩) (h:y<=x:=by first | assumption | decide):gK P N l o w (.bool true):=aO ho.1 ho.2.1 ho.2.2 (Wh h)
theorem apl (ho:o.op= .binOp .geq t xo yo tt/\ev l xo=some (.int kd x)/\ev l yo=some (.int kd y):=by exact ⟨rfl,rfl,rfl⟩) (h: ¬ y<=x:=by first | assumption | decide):gK P N l o w (.bool false):=aO ho.1 ho.2.1 ho.2.2 (Wi h)
theorem apm (ho:o.op= .binOp .eql t xo yo tt/\ev l xo=some (.int kd x)/\ev l yo=some (.int kd y):=by exact ⟨rfl,rfl,rfl⟩) (h:x=y:=by first | assumption | decide):gK P N l o w (.bool true):=aO ho.1 ho.2.1 ho.2.2 (MW h)
theorem apn (ho:o.op= .binOp .eql t xo yo tt/\ev l xo=some (.int kd x)/\ev l yo=some (.int kd y):=by exact ⟨rfl,rfl,rfl⟩) (h: ¬ x=y:=by first | assumption | decide):gK P N l o w (.bool false):=aO ho.1 ho.2.1 ho.2.2 (MX h)
theorem apo (ho:o.op= .binOp .neq t xo yo tt/\ev l xo=some (.int kd x)/\ev l yo=some (.int kd y):=by exact ⟨rfl,rfl,rfl⟩) (h: ¬ x=y:=by first | assumption | decide):gK P N l o w (.bool true):=aO ho.1 ho.2.1 ho.2.2 (MZ h)
theorem apq (ho:o.op= .binOp .neq t xo yo tt/\ev l xo=some (.int kd x)/\ev l yo=some (.int kd y):=by exact ⟨rfl,rfl,rfl⟩) (h:x=y:=by first | assumption | decide):gK P N l o w (.bool false):=aO ho.1 ho.2.1 ho.2.2 (Gp h)
theorem akX (ho:o.op= .binOp .lss t xo yo tt/\ev l xo=some (.int kd x)/\ev l yo=some (.int kd y):=by exact ⟨rfl,rfl,rfl⟩) (h:x<y:=by omega):gK P N l o w (.bool true):=aO ho.1 ho.2.1 ho.2.2 (MU h)
theorem akY (ho:o.op= .binOp .lss t xo yo tt/\ev l xo=some (.int kd x)/\ev l yo=some (.int kd y):=by exact ⟨rfl,rfl,rfl⟩) (h: ¬ x<y:=by omega):gK P N l o w (.bool false):=aO ho.1 ho.2.1 ho.2.2 (MV h)
theorem akZ (ho:o.op= .binOp .leq t xo yo tt/\ev l xo=some (.int kd x)/\ev l yo=some (.int kd y):=by exact ⟨rfl,rfl,rfl⟩) (h:x<=y:=by omega):gK P N l o w (.bool true):=aO ho.1 ho.2.1 ho.2.2 (V6 h)
theorem ak0 (ho:o.op= .binOp .leq t xo yo tt/\ev l xo=some (.int kd x)/\ev l yo=some (.int kd y):=by exact ⟨rfl,rfl,rfl⟩) (h: ¬ x<=y:=by omega):gK P N l o w (.bool false):=aO ho.1 ho.2.1 ho.2.2 (V7 h)
theorem ak1 (ho:o.op= .binOp .gtr t xo yo tt/\ev l xo=some (.int kd x)/\ev l yo=some (.int kd y):=by exact ⟨rfl,rfl,rfl⟩) (h:y<x:=by omega):gK P N l o w (.bool true):=aO ho.1 ho.2.1 ho.2.2 (V8 h)
theorem ak2 (ho:o.op= .binOp .gtr t xo yo tt/\ev l xo=some (.int kd x)/\ev l yo=some (.int kd y):=by exact ⟨rfl,rfl,rfl⟩) (h: ¬ y<x:=by omega):gK P N l o w (.bool false):=aO ho.1 ho.2.1 ho.2.2 (V9 h)
theorem ak3 (ho:o.op= .binOp .geq t xo yo tt/\ev l xo=some (.int kd x)/\ev l yo=some (.int kd y):=by exact ⟨rfl,rfl,rfl⟩) (h:y<=x:=by omega):gK P N l o w (.bool true):=aO ho.1 ho.2.1 ho.2.2 (Wh h)
theorem ak4 (ho:o.op= .binOp .geq t xo yo tt/\ev l xo=some (.int kd x)/\ev l yo=some (.int kd y):=by exact ⟨rfl,rfl,rfl⟩) (h: ¬ y<=x:=by omega):gK P N l o w (.bool false):=aO ho.1 ho.2.1 ho.2.2 (Wi h)
theorem ak5 (ho:o.op= .binOp .eql t xo yo tt/\ev l xo=some (.int kd x)/\ev l yo=some (.int kd y):=by exact ⟨rfl,rfl,rfl⟩) (h:x=y:=by omega):gK P N l o w (.bool true):=aO ho.1 ho.2.1 ho.2.2 (MW h)
theorem ak6 (ho:o.op= .binOp .eql t xo yo tt/\ev l xo=some (.int kd x)/\ev l yo=some (.int kd y):=by exact ⟨rfl,rfl,rfl⟩) (h: ¬ x=y:=by omega):gK P N l o w (.bool false):=aO ho.1 ho.2.1 ho.2.2 (MX h)
theorem ak7 (ho:o.op= .binOp .neq t xo yo tt/\ev l xo=some (.int kd x)/\ev l yo=some (.int kd y):=by exact ⟨rfl,rfl,rfl⟩) (h: ¬ x=y:=by omega):gK P N l o w (.bool true):=aO ho.1 ho.2.1 ho.2.2 (MZ h)
theorem ak8 (ho:o.op= .binOp .neq t xo yo tt/\ev l xo=some (.int kd x)/\ev l yo=some (.int kd y):=by exact ⟨rfl,rfl,rfl⟩) (h:x=y:=by omega):gK P N l o w (.bool false):=aO ho.1 ho.2.1 ho.2.2 (Gp h)
end
theorem amd {P:Program} {w:World} {t:TypeId} {xo yo:Operand} {a b:ByteArray} {q:Bool} (h:(a.toList==b.toList)=q):(do eqGuard .eql t xo yo (.string a) (.string b);binOp .eql t (.string a) (.string b):Sem Value).run P w= .ok (.bool q) w:=by
 subst h;simp [binOp,eqGuard_at_string,go_sem,Op.stringOp]
theorem arF {xo yo:Operand} {a b:ByteArray} (ho:o.op= .binOp .eql t xo yo tt/\ev l xo=some (.string a)/\ev l yo=some (.string b):=by exact ⟨rfl,rfl,rfl⟩) (h:(a.toList==b.toList)=true:=by decide+kernel):gK P N l o w (.bool true):=aO ho.1 ho.2.1 ho.2.2 (amd h)
theorem arG {xo yo:Operand} {a b:ByteArray} (ho:o.op= .binOp .eql t xo yo tt/\ev l xo=some (.string a)/\ev l yo=some (.string b):=by exact ⟨rfl,rfl,rfl⟩) (h:(a.toList==b.toList)=false:=by decide+kernel):gK P N l o w (.bool false):=aO ho.1 ho.2.1 ho.2.2 (amd h)
end
end
theorem arH: ∀ w,(Instr.build 30 ([]:List (Nat×Value)).toArray).run Tryz.prog w= .ok (.agg #[.int .i64 0,.int .i64 0]) w:=λw=>by kernel_rfl
theorem arI: ∀ w,(Instr.build 33 ([]:List (Nat×Value)).toArray).run Tryz.prog w= .ok (.agg #[.int .i64 0,.int .i64 0,.int .i64 0,.int .i64 0,.int .i64 0,.int .i64 0,.int .i64 0,.int .i64 0]) w:=λw=>by kernel_rfl
theorem arJ: ∀ w,(Instr.build 38 ([]:List (Nat×Value)).toArray).run Tryz.prog w= .ok (.agg #[.int .i64 0,.bool false,.bool false,.bool false,.bool false,.bool false,.int .i64 0,.int .i64 0,.int .i64 0,.int .i64 0,.int .i64 0,.int .i64 0,.int .i64 0,.int .i64 0,.slice none 0 0,.slice none 0 0,.slice none 0 0,.int .i64 0]) w:=λw=>by kernel_rfl
theorem arK: ∀ w,(Instr.build 42 ([]:List (Nat×Value)).toArray).run Tryz.prog w= .ok (.agg #[.int .i64 0,.int .i64 0,.int .i64 0,.int .i64 0,.int .i64 0,.slice none 0 0]) w:=λw=>by kernel_rfl
theorem arL: ∀ w,(Instr.build 54 ([]:List (Nat×Value)).toArray).run Tryz.prog w= .ok (.agg #[.int .i64 0,.bool false,.bool false,.bool false,.bool false,.bool false,.bool false,.bool false,.bool false]) w:=λw=>by kernel_rfl
theorem arM: ∀ w,(Instr.build 75 ([]:List (Nat×Value)).toArray).run Tryz.prog w= .ok (.agg #[.int .i64 0,.int .i64 0,.int .i64 0,.int .i64 0,.int .i64 0,.int .i64 0]) w:=λw=>by kernel_rfl
theorem arN: ∀ w,(Instr.build 77 ([]:List (Nat×Value)).toArray).run Tryz.prog w= .ok (.agg #[.int .i64 0,.int .i64 0,.int .i64 0,.int .i64 0,.int .i64 0,.int .i64 0,.int .i64 0,.int .i64 0,.int .i64 0,.int .i64 0,.int .i64 0]) w:=λw=>by kernel_rfl
theorem arO: ∀ w,(Instr.build 79 ([]:List (Nat×Value)).toArray).run Tryz.prog w= .ok (.agg #[.int .i64 0,.int .i64 0,.int .i64 0,.int .i64 0]) w:=λw=>by kernel_rfl
theorem arP: ∀ w,(Instr.build 81 ([]:List (Nat×Value)).toArray).run Tryz.prog w= .ok (.agg #[.int .i64 0,.int .i64 0,.int .i64 0,.int .i64 0,.int .i64 0,.int .i64 0,.int .i64 0]) w:=λw=>by kernel_rfl
theorem arQ: ∀ w,(Instr.build 88 ([]:List (Nat×Value)).toArray).run Tryz.prog w= .ok (.agg #[.int .i64 0,.int .i64 0]) w:=λw=>by kernel_rfl
theorem arR: ∀ w,(Instr.build 90 ([]:List (Nat×Value)).toArray).run Tryz.prog w= .ok (.agg #[.int .i64 0,.int .i64 0,.int .i64 0,.int .i64 0]) w:=λw=>by kernel_rfl
theorem apr: ∀ w,(Instr.build 117 ([]:List (Nat×Value)).toArray).run Tryz.prog w= .ok (.agg #[.int .i64 0,.int .i64 0]) w:=λw=>by kernel_rfl
theorem aps: ∀ w,(Instr.build 125 ([]:List (Nat×Value)).toArray).run Tryz.prog w= .ok (.agg #[.slice none 0 0,.int .i64 0]) w:=λw=>by kernel_rfl
theorem apt: ∀ w,(Instr.build 129 ([]:List (Nat×Value)).toArray).run Tryz.prog w= .ok (.agg #[.int .i64 0,.bool false,.slice none 0 0,.int .i64 0,.slice none 0 0,.int .i64 0,.int .i64 0,.int .i64 0,.int .i64 0,.int .i64 0,.int .i64 0,.int .i64 0,.int .i64 0,.bool false,.bool false,.bool false,.bool false,.slice none 0 0,.nilFunc,.int .i64 0]) w:=λw=>by kernel_rfl
theorem apu: ∀ w,(Instr.build 164 ([]:List (Nat×Value)).toArray).run Tryz.prog w= .ok (.agg #[.pointer none,.int .i64 0]) w:=λw=>by kernel_rfl
theorem apv: ∀ w,(Instr.build 169 ([]:List (Nat×Value)).toArray).run Tryz.prog w= .ok (.agg #[.int .i64 0,.int .i64 0,.int .i64 0,.int .i64 0,.int .i64 0,.int .i64 0,.int .i64 0,.int .i64 0,.int .i64 0,.int .i64 0,.int .i64 0,.int .i64 0,.int .i64 0,.slice none 0 0,.bool false,.int .i64 0,.int .i64 0,.int .i64 0,.int .i64 0,.int .i64 0,.int .i64 0,.int .i64 0,.int .i64 0]) w:=λw=>by kernel_rfl
theorem apw: ∀ w,(Instr.build 205 ([]:List (Nat×Value)).toArray).run Tryz.prog w= .ok (.agg #[.int .i64 0,.int .i64 0,.int .i64 0,.int .i64 0,.int .i64 0,.int .i64 0,.int .i64 0,.int .i64 0,.int .i64 0,.int .i64 0]) w:=λw=>by kernel_rfl
section
variable {P:Program} {N:Nat} {l l':Slots} {w w' w0:World} {ops:Array Oper} {o:Oper} {rest:List Oper} {Q:Exit->Act->World->Prop} {d B:Nat} {v p:Value} {fs fs':List Fact} {ex:Exit}
section
variable {x y:Operand} {t tt s:TypeId} {ds:TypeDesc} {b k f o0 n c m:Nat} {g:Nat->Nat} {row:Array Value} {A:Option Addr} {e:TypeId}
theorem ybz {row:Array Value} (ho:o.op= .build t ([]:List (Nat×Operand)).toArray:=by exact rfl) (hr: ∀ w,(Instr.build t ([]:List (Nat×Value)).toArray).run P w= .ok (.agg row) w:=by with_reducible first | exact arH | exact arI | exact arJ | exact arK | exact arL | exact arM | exact arN | exact arO | exact arP | exact arQ | exact arR | exact apr | exact aps | exact apt | exact apu | exact apv | exact apw):gK P N l o w (.agg row):=Ck (vs:=[]) ho trivial (hr w)
theorem y0Q (hy:gK P N l o w v:=by first | exact ym | exact ya | exact yx | exact yno | exact znl | exact zfa | exact zld | exact zlr | exact zln | exact ypT | exact ypF | exact ybz | exact arF | exact arG | exact apd | exact ape | exact apf | exact apg | exact aph | exact apj | exact apk | exact apl | exact apm | exact apn | exact apo | exact apq | exact akX | exact akY | exact akZ | exact ak0 | exact ak1 | exact ak2 | exact ak3 | exact ak4 | exact ak5 | exact ak6 | exact ak7 | exact ak8):gK P N l o w v:=hy
end
inductive lH:Nat->List Bool->Nat->List Bool->Prop
 | z {l:List Bool}:lH 0 (false::l) 0 (true::l)
 | t {k i:Nat} {l l':List Bool}:lH k l i l'->lH k (true::l) (i+1) (true::l')
 | f {k i:Nat} {l l':List Bool}:lH k l i l'->lH (k+1) (false::l) (i+1) (false::l')
theorem lH.eq {k i:Nat} {l l':List Bool} (h:lH k l i l'):l.toArray.setIfInBounds i true=l'.toArray:=by
 suffices h2:l.set i true=l' by simp [h2]
 induction h with
 | z=>rfl
 | t _ ih=>rw [List.set_cons_succ,ih]
 | f _ ih=>rw [List.set_cons_succ,ih]
inductive p8:List Bool->Nat->List Bool->Prop
 | z {b:Bool} {l:List Bool}:p8 (b::l) 0 (true::l)
 | s {b:Bool} {i:Nat} {l l':List Bool}:p8 l i l'->p8 (b::l) (i+1) (b::l')
theorem p8.eq {i:Nat} {l l':List Bool} (h:p8 l i l'):l.toArray.setIfInBounds i true=l'.toArray:=by
 suffices h2:l.set i true=l' by simp [h2]
 induction h with
 | z=>rfl
 | s _ ih=>rw [List.set_cons_succ,ih]
def Step (A B:Prop):Prop:=B->A
section
variable {C:World->Prop} {Qa:Act->Prop} {j:Nat} {t:Nat} {u:Value} {b:Bool}
theorem q1Q (hw:o.guard=none/\o.dst=some d/\Nat.blt d N=true:=by exact ⟨rfl,rfl,rfl⟩) (hy:gK P N l o w v:=by exact y0Q):Step (wL P N ops Q (o::rest) l w) (wL P N ops Q rest ((d,v)::l) w):=λh=>DT (wn hw.1) hw.2.1 hw.2.2 hy h
theorem q2Q (hg:o.guard=some (j,b)/\(ops[j]?).bind (·.dst)=some t:=by exact ⟨rfl,rfl⟩) (hv:lk l t=some u:=by exact rfl) (hr:(yl u==some b)=true/\o.dst=some d/\Nat.blt d N=true:=by exact ⟨rfl,rfl,rfl⟩) (hy:gK P N l o w v:=by exact y0Q):Step (wL P N ops Q (o::rest) l w) (wL P N ops Q rest ((d,v)::l) w):=λh=>DT (wg hg.1 hg.2 hv hr.1) hr.2.1 hr.2.2 hy h
theorem q3Q (hw:o.guard=none/\o.dst=some d/\Nat.blt d N=true:=by exact ⟨rfl,rfl,rfl⟩) (hy: ∀ w,C w->gK P N l o w v:=by (intro w S;exact y0Q)):Step (wU P N ops C Qa (o::rest) l) (wU P N ops C Qa rest ((d,v)::l)):=λh=>Lh (wn hw.1) hw.2.1 hw.2.2 hy h
theorem q4Q (hg:o.guard=some (j,b)/\(ops[j]?).bind (·.dst)=some t:=by exact ⟨rfl,rfl⟩) (hv:lk l t=some u:=by exact rfl) (hr:(yl u==some b)=true/\o.dst=some d/\Nat.blt d N=true:=by exact ⟨rfl,rfl,rfl⟩) (hy: ∀ w,C w->gK P N l o w v:=by (intro w S;exact y0Q)):Step (wU P N ops C Qa (o::rest) l) (wU P N ops C Qa rest ((d,v)::l)):=λh=>Lh (wg hg.1 hg.2 hv hr.1) hr.2.1 hr.2.2 hy h
theorem St.fit {gs:List Fact} (S:St B w0 w gs) (h:Bb fs gs:=by repeat' first | exact Bb.r | exact Bb.a | apply Bb.k | apply Bb.d):St B w0 w fs:=S.sub h.sub
section
variable {n m i:Nat} {listed listed':Array Bool}
theorem Wu {ls ls':List Bool} (q:Nat) (hl:lH q ls i ls':=by repeat' first | exact lH.z | apply lH.t | apply lH.f) (hi:ops[i]? =some o:=by exact rfl) (hw:o.guard=none/\o.dst=some d/\Nat.blt d N=true:=by exact ⟨rfl,rfl,rfl⟩) (hy: ∀ w,C w->gK P N l o w v:=by (intro w S;exact y0Q)) (hS:C w:=by first | assumption | exact St.fit (by assumption)) (hs:Region.noSelect ops=true:=by kernel_rfl) (hf:Region.free .any ops ls.toArray i=true:=by kernel_rfl) (hr:(Region.ready .any ops ls.toArray).contains i=true:=by kernel_rfl):Step (wA P N ops Q C (n+1) ls.toArray l w) (wA P N ops Q C n ls'.toArray ((d,v)::l) w):=λh=>Cm hi hs hf hr hS hl.eq (wn hw.1) hw.2.1 hw.2.2 hy h
theorem Wv {ls ls':List Bool} (q:Nat) (hl:lH q ls i ls':=by repeat' first | exact lH.z | apply lH.t | apply lH.f) (hi:ops[i]? =some o:=by exact rfl) (hw:o.guard=none/\o.dst=some d/\Nat.blt d N=true:=by exact ⟨rfl,rfl,rfl⟩) (hy: ∀ w,C w->gK P N l o w v:=by (intro w S;exact y0Q)) (hS:C w:=by first | assumption | exact St.fit (by assumption)) (hs:Region.noSelect ops=true:=by kernel_rfl) (hf:Region.free .any ops ls.toArray i=true:=by kernel_rfl) (hr:(Region.ready .any ops ls.toArray).contains i=true:=by kernel_rfl) (hnl:ls.toArray.getD n true=false:=by exact rfl) (hni:vT ops n i=true:=by kernel_rfl) (hne:Nat.beq n i=false:=by exact rfl):Step (wG P N ops Q C n (m+1) ls.toArray l w) (wG P N ops Q C n m ls'.toArray ((d,v)::l) w):=λh=>Co hi hs hf hr hnl hni hne hS hl.eq (wn hw.1) hw.2.1 hw.2.2 hy h
theorem Ww {ls ls':List Bool} (q:Nat) (hl:lH q ls i ls':=by repeat' first | exact lH.z | apply lH.t | apply lH.f) (hi:ops[i]? =some o:=by exact rfl) (hg:o.guard=some (j,b)/\(ops[j]?).bind (·.dst)=some t:=by exact ⟨rfl,rfl⟩) (hv:lk l t=some u:=by exact rfl) (hr0:(yl u==some b)=true/\o.dst=some d/\Nat.blt d N=true:=by exact ⟨rfl,rfl,rfl⟩) (hy: ∀ w,C w->gK P N l o w v:=by (intro w S;exact y0Q)) (hS:C w:=by first | assumption | exact St.fit (by assumption)) (hs:Region.noSelect ops=true:=by kernel_rfl) (hf:Region.free .any ops ls.toArray i=true:=by kernel_rfl) (hr:(Region.ready .any ops ls.toArray).contains i=true:=by kernel_rfl):Step (wA P N ops Q C (n+1) ls.toArray l w) (wA P N ops Q C n ls'.toArray ((d,v)::l) w):=λh=>Cm hi hs hf hr hS hl.eq (wg hg.1 hg.2 hv hr0.1) hr0.2.1 hr0.2.2 hy h
theorem Wx {ls ls':List Bool} (q:Nat) (hl:lH q ls i ls':=by repeat' first | exact lH.z | apply lH.t | apply lH.f) (hi:ops[i]? =some o:=by exact rfl) (hg:o.guard=some (j,b)/\(ops[j]?).bind (·.dst)=some t:=by exact ⟨rfl,rfl⟩) (hv:lk l t=some u:=by exact rfl) (hr0:(yl u==some b)=false/\o.dst=some d/\Nat.blt d N=true:=by exact ⟨rfl,rfl,rfl⟩) (hS:C w:=by first | assumption | exact St.fit (by assumption)) (hs:Region.noSelect ops=true:=by kernel_rfl) (hf:Region.free .any ops ls.toArray i=true:=by kernel_rfl) (hr:(Region.ready .any ops ls.toArray).contains i=true:=by kernel_rfl):Step (wA P N ops Q C (n+1) ls.toArray l w) (wA P N ops Q C n ls'.toArray ((d,undef)::l) w):=λh=>zu hi hs hf hr hS hl.eq (wg hg.1 hg.2 hv hr0.1) hr0.2.1 hr0.2.2 h
theorem Wy {ls ls':List Bool} (q:Nat) (hl:lH q ls i ls':=by repeat' first | exact lH.z | apply lH.t | apply lH.f) (hi:ops[i]? =some o:=by exact rfl) (hg:o.guard=some (j,b)/\(ops[j]?).bind (·.dst)=some t:=by exact ⟨rfl,rfl⟩) (hv:lk l t=some u:=by exact rfl) (hr0:(yl u==some b)=true/\o.dst=some d/\Nat.blt d N=true:=by exact ⟨rfl,rfl,rfl⟩) (hy: ∀ w,C w->gK P N l o w v:=by (intro w S;exact y0Q)) (hS:C w:=by first | assumption | exact St.fit (by assumption)) (hs:Region.noSelect ops=true:=by kernel_rfl) (hf:Region.free .any ops ls.toArray i=true:=by kernel_rfl) (hr:(Region.ready .any ops ls.toArray).contains i=true:=by kernel_rfl) (hnl:ls.toArray.getD n true=false:=by exact rfl) (hni:vT ops n i=true:=by kernel_rfl) (hne:Nat.beq n i=false:=by exact rfl):Step (wG P N ops Q C n (m+1) ls.toArray l w) (wG P N ops Q C n m ls'.toArray ((d,v)::l) w):=λh=>Co hi hs hf hr hnl hni hne hS hl.eq (wg hg.1 hg.2 hv hr0.1) hr0.2.1 hr0.2.2 hy h
theorem Gv {ls ls':List Bool} (q:Nat) (hl:lH q ls i ls':=by repeat' first | exact lH.z | apply lH.t | apply lH.f) (hi:ops[i]? =some o:=by exact rfl) (hg:o.guard=some (j,b)/\(ops[j]?).bind (·.dst)=some t:=by exact ⟨rfl,rfl⟩) (hv:lk l t=some u:=by exact rfl) (hr0:(yl u==some b)=false/\o.dst=some d/\Nat.blt d N=true:=by exact ⟨rfl,rfl,rfl⟩) (hS:C w:=by first | assumption | exact St.fit (by assumption)) (hs:Region.noSelect ops=true:=by kernel_rfl) (hf:Region.free .any ops ls.toArray i=true:=by kernel_rfl) (hr:(Region.ready .any ops ls.toArray).contains i=true:=by kernel_rfl) (hnl:ls.toArray.getD n true=false:=by exact rfl) (hni:vT ops n i=true:=by kernel_rfl) (hne:Nat.beq n i=false:=by exact rfl):Step (wG P N ops Q C n (m+1) ls.toArray l w) (wG P N ops Q C n m ls'.toArray ((d,undef)::l) w):=λh=>ae2 hi hs hf hr hnl hni hne hS hl.eq (wg hg.1 hg.2 hv hr0.1) hr0.2.1 hr0.2.2 h
end
end
section
variable {fn:Func} {R:Ending->World->Prop} {i j k:Nat} {v1 v2 v3:Value} {ty t tt:TypeId} {b m:Nat} {row:Array Value} {ds:TypeDesc}
theorem p0Q (hr:fn.results=([]:List ResultVar).toArray:=by exact rfl):Step (wQ N (bodyPost P fn R) .ret l w) (R (.returned (qy [])) w):=λhR=>dH (vs:=[]) hr trivial hR
theorem arS (hr:fn.results=([]:List ResultVar).toArray:=by exact rfl):Step (wQ N (bodyPost P fn R) .normal l w) (R (.returned (qy [])) w):=λhR=>aV (vs:=[]) hr trivial hR
theorem p1Q (hr:fn.results=[ResultVar.tmp i].toArray:=by exact rfl) (h1:lk l i=some v1:=by exact rfl):Step (wQ N (bodyPost P fn R) .ret l w) (R (.returned (qy [v1])) w):=λhR=>dH (vs:=[v1]) hr ⟨h1,trivial⟩ hR
theorem p2Q (hr:fn.results=[ResultVar.tmp i,ResultVar.tmp j].toArray:=by exact rfl) (h1:lk l i=some v1:=by exact rfl) (h2:lk l j=some v2:=by exact rfl):Step (wQ N (bodyPost P fn R) .ret l w) (R (.returned (qy [v1,v2])) w):=λhR=>dH (vs:=[v1,v2]) hr ⟨h1,h2,trivial⟩ hR
theorem p3Q (hr:fn.results=[ResultVar.tmp i,ResultVar.tmp j,ResultVar.tmp k].toArray:=by exact rfl) (h1:lk l i=some v1:=by exact rfl) (h2:lk l j=some v2/\lk l k=some v3:=by exact ⟨rfl,rfl⟩):Step (wQ N (bodyPost P fn R) .ret l w) (R (.returned (qy [v1,v2,v3])) w):=λhR=>dH (vs:=[v1,v2,v3]) hr ⟨h1,h2.1,h2.2,trivial⟩ hR
theorem arT (hr:fn.results=[ResultVar.cell i ty].toArray/\lk l i=some (.pointer (some ⟨b,0,none⟩)):=by exact ⟨rfl,rfl⟩) (S:St B w0 w fs:=by assumption) (hf:kS b fs row tt:=by repeat' first | exact kS.z | apply kS.s) (hu:P.underlying ty=some ds:=by exact Sn) (hd:ds.isRow=true:=by exact rfl) (hz:(P.info? ty).map (·.size)=some m:=by exact iiQ) (hm:row.size=m:=by exact rfl):Step (wQ N (bodyPost P fn R) .ret l w) (R (.returned (qy [.agg row])) w):=λhR=>by
 obtain ⟨q,hq⟩:=hf.at_;exact dH (vs:=[.agg row]) hr.1 ⟨⟨_,hr.2,dW q S hq hu hd (by rw [hm];exact hz)⟩,trivial⟩ hR
theorem arU (hr:fn.results=[ResultVar.cell i ty,ResultVar.tmp j].toArray:=by exact rfl) (h1:lk l j=some v1:=by exact rfl) (hc:lk l i=some (.pointer (some ⟨b,0,none⟩)):=by exact rfl) (S:St B w0 w fs:=by assumption) (hf:kS b fs row tt:=by repeat' first | exact kS.z | apply kS.s) (hu:P.underlying ty=some ds:=by exact Sn) (hd:ds.isRow=true:=by exact rfl) (hz:(P.info? ty).map (·.size)=some m:=by exact iiQ) (hm:row.size=m:=by exact rfl):Step (wQ N (bodyPost P fn R) .ret l w) (R (.returned (qy [.agg row,v1])) w):=λhR=>by
 obtain ⟨q,hq⟩:=hf.at_;exact dH (vs:=[.agg row,v1]) hr ⟨⟨_,hc,dW q S hq hu hd (by rw [hm];exact hz)⟩,h1,trivial⟩ hR
theorem arV (hr:fn.results=[ResultVar.cell i ty,ResultVar.tmp j,ResultVar.tmp k].toArray:=by exact rfl) (h1:lk l j=some v1:=by exact rfl) (h2:lk l k=some v2/\lk l i=some (.pointer (some ⟨b,0,none⟩)):=by exact ⟨rfl,rfl⟩) (S:St B w0 w fs:=by assumption) (hf:kS b fs row tt:=by repeat' first | exact kS.z | apply kS.s) (hu:P.underlying ty=some ds:=by exact Sn) (hd:ds.isRow=true:=by exact rfl) (hz:(P.info? ty).map (·.size)=some m:=by exact iiQ) (hm:row.size=m:=by exact rfl):Step (wQ N (bodyPost P fn R) .ret l w) (R (.returned (qy [.agg row,v1,v2])) w):=λhR=>by
 obtain ⟨q,hq⟩:=hf.at_;exact dH (vs:=[.agg row,v1,v2]) hr ⟨⟨_,h2.2,dW q S hq hu hd (by rw [hm];exact hz)⟩,h1,h2.1,trivial⟩ hR
theorem arW {r:Nat} (hr:fn.results=[ResultVar.cell i ty,ResultVar.tmp j,ResultVar.tmp k,ResultVar.tmp r].toArray:=by exact rfl) (h1:lk l j=some v1:=by exact rfl) (h2:lk l k=some v2/\lk l r=some v3/\lk l i=some (.pointer (some ⟨b,0,none⟩)):=by exact ⟨rfl,rfl,rfl⟩) (S:St B w0 w fs:=by assumption) (hf:kS b fs row tt:=by repeat' first | exact kS.z | apply kS.s) (hu:P.underlying ty=some ds:=by exact Sn) (hd:ds.isRow=true:=by exact rfl) (hz:(P.info? ty).map (·.size)=some m:=by exact iiQ) (hm:row.size=m:=by exact rfl):Step (wQ N (bodyPost P fn R) .ret l w) (R (.returned (qy [.agg row,v1,v2,v3])) w):=λhR=>by
 obtain ⟨q,hq⟩:=hf.at_;exact dH (vs:=[.agg row,v1,v2,v3]) hr ⟨⟨_,h2.2.2,dW q S hq hu hd (by rw [hm];exact hz)⟩,h1,h2.1,h2.2.1,trivial⟩ hR
end
theorem gLQ {B:Prop} (h:Step (wL P N ops Q rest l w) B):Step (wL P N ops Q rest l w) B:=h
theorem gQQ {B:Prop} (h:Step (wQ N Q ex l w) B):Step (wQ N Q ex l w) B:=h
theorem gUQ {B:Prop} {C:World->Prop} {Qa:Act->Prop} (h:Step (wU P N ops C Qa rest l) B):Step (wU P N ops C Qa rest l) B:=h
theorem gAQ {B:Prop} {C:World->Prop} {n:Nat} {ls:List Bool} (h:Step (wA P N ops Q C (n+1) ls.toArray l w) B):Step (wA P N ops Q C (n+1) ls.toArray l w) B:=h
theorem gGQ {B:Prop} {C:World->Prop} {n m:Nat} {ls:List Bool} (h:Step (wG P N ops Q C n (m+1) ls.toArray l w) B):Step (wG P N ops Q C n (m+1) ls.toArray l w) B:=h
section
variable {K:Act->World->Prop} {x y:Code} {id:Nat} {os:List Oper} {c:Operand} {C:World->Prop} {Qa:Act->Prop} {j t n:Nat} {u:Value} {b:Bool} {listed:Array Bool} {A B:Prop}
theorem s1Q:Step (wQ N (Exit.then (y.wp P Q) Q) .normal l w) (wC P N y Q l w):=gG
theorem s2Q:Step (wC P N (.seq x y) Q l w) (wC P N x (Exit.then (y.wp P Q) Q) l w):=aT
theorem s3Q:Step (wC P N (.region id os.toArray false) Q l w) (wL P N os.toArray Q os l w):=aH
theorem s4Q:Step (wC P N .skip Q l w) (wQ N Q .normal l w):=pW
theorem s5Q:Step (wC P N (.block id x) Q l w) (wC P N x (Exit.inBlock id Q) l w):=CY
theorem s6Q:Step (wQ N (Exit.inBlock id Q) .normal l w) (wQ N Q .normal l w):=gQ
theorem s7Q:Step (wC P N .ret Q l w) (wQ N Q .ret l w):=nC
theorem s8Q:Step (wQ N (Exit.then K Q) .ret l w) (wQ N Q .ret l w):=gJ
theorem s9Q:Step (wQ N (Exit.inBlock id Q) .ret l w) (wQ N Q .ret l w):=UN
theorem arX:Step (wC P N (.exit id) Q l w) (wQ N Q (.exit id) l w):=aeU
theorem arY:Step (wQ N (Exit.then K Q) (.exit id) l w) (wQ N Q (.exit id) l w):=NP
theorem arZ:Step (wQ N (Exit.inBlock id Q) (.exit id) l w) (wQ N Q .normal l w):=Q0
theorem ar0:Step (wL P N ops Q [] l w) (wQ N Q .normal l w):=aa3
theorem ar1 (hc:ev l c=some (.bool true)):Step (wC P N (.cond c x y) Q l w) (wC P N x Q l w):=kX hc
theorem ar2 (hc:ev l c=some (.bool false)):Step (wC P N (.cond c x y) Q l w) (wC P N y Q l w):=kY hc
theorem ar3 (hg:o.guard=some (j,b)/\(ops[j]?).bind (·.dst)=some t:=by exact ⟨rfl,rfl⟩) (hv:lk l t=some u:=by exact rfl) (hr:(yl u==some b)=false/\o.dst=some d/\Nat.blt d N=true:=by exact ⟨rfl,rfl,rfl⟩):Step (wL P N ops Q (o::rest) l w) (wL P N ops Q rest ((d,undef)::l) w):=V5 (wg hg.1 hg.2 hv hr.1) hr.2.1 hr.2.2
theorem ar4 (hg:o.guard=some (j,b)/\(ops[j]?).bind (·.dst)=some t:=by exact ⟨rfl,rfl⟩) (hv:lk l t=some u:=by exact rfl) (hr:(yl u==some b)=false/\o.dst=some d/\Nat.blt d N=true:=by exact ⟨rfl,rfl,rfl⟩):Step (wU P N ops C Qa (o::rest) l) (wU P N ops C Qa rest ((d,undef)::l)):=aeZ (wg hg.1 hg.2 hv hr.1) hr.2.1 hr.2.2
theorem ar5 (hr:Region.ready .any ops listed=[]):Step (wA P N ops Q C n listed l w) (wQ N Q .normal l w):=ae0 hr
theorem ame {G:Prop} (h:G:=by first | assumption | exact St.fit (by assumption)):Step (G/\A) A:=And.intro h
end
inductive Steps:Nat->Prop->Prop->Prop
 | z {A:Prop}:Steps 0 A A
 | s {n:Nat} {A B C:Prop}:Step A B->Steps n B C->Steps (n+1) A C
theorem Steps.go {n:Nat} {A B:Prop} (h:Steps n A B):B->A:=by
 induction h with
 | z=>exact id
 | s h _ ih=>exact λb=>h (ih b)
theorem sQ {A B:Prop} (hs:Step A B:=by first | with_reducible exact ar0 | ((with_reducible apply gLQ);first | exact q1Q | exact q2Q | exact ar3) | with_reducible exact s1Q | with_reducible exact s2Q | with_reducible exact s3Q | with_reducible exact s4Q | with_reducible exact s5Q | with_reducible exact s6Q | with_reducible exact s7Q | with_reducible exact s8Q | with_reducible exact s9Q | with_reducible exact arX | with_reducible exact arY | with_reducible exact arZ | ((with_reducible refine ar1 ?_);exact rfl) | ((with_reducible refine ar2 ?_);exact rfl) | ((with_reducible apply gUQ);first | exact q3Q | exact q4Q | exact ar4) | ((with_reducible apply gQQ);first | exact p1Q | exact arU | exact p2Q | exact arT | exact p3Q | exact arV | exact p0Q | exact arS | exact arW)):Step A B:=hs
theorem zQ {A B:Prop} (h:B) (hs:Step A B:=by exact sQ):A:=hs h
theorem zN {A B:Prop} (n:Nat) (h:B) (hs:Steps n A B:=by repeat' first | exact Steps.z | apply Steps.s | exact sQ):A:=hs.go h
theorem sQa {A B:Prop} (hs:Step A B:=by first | ((with_reducible apply gAQ);first | exact Wu 0 | exact Ww 0 | exact Wx 0 | exact Wu 1 | exact Ww 1 | exact Wx 1 | exact Wu 2 | exact Ww 2 | exact Wx 2 | exact Wu 3 | exact Ww 3 | exact Wx 3 | exact Wu 4 | exact Ww 4 | exact Wx 4 | exact Wu 5 | exact Ww 5 | exact Wx 5 | exact Wu 6 | exact Ww 6 | exact Wx 6 | exact Wu 7 | exact Ww 7 | exact Wx 7 | exact Wu 8 | exact Ww 8 | exact Wx 8 | exact Wu 9 | exact Ww 9 | exact Wx 9) | ((with_reducible apply ar5);kernel_rfl) | exact ame):Step A B:=hs
theorem dh {A B:Prop} (h:B) (hs:Step A B:=by exact sQa):A:=hs h
theorem aK {A B:Prop} (n:Nat) (h:B) (hs:Steps n A B:=by repeat' first | exact Steps.z | apply Steps.s | exact sQa):A:=hs.go h
theorem gy {A B:Prop} (h:B) (hs:Step A B:=by first | ((with_reducible apply gGQ);first | exact Wv 0 | exact Wy 0 | exact Gv 0 | exact Wv 1 | exact Wy 1 | exact Gv 1 | exact Wv 2 | exact Wy 2 | exact Gv 2 | exact Wv 3 | exact Wy 3 | exact Gv 3 | exact Wv 4 | exact Wy 4 | exact Gv 4 | exact Wv 5 | exact Wy 5 | exact Gv 5 | exact Wv 6 | exact Wy 6 | exact Gv 6 | exact Wv 7 | exact Wy 7 | exact Gv 7 | exact Wv 8 | exact Wy 8 | exact Gv 8 | exact Wv 9 | exact Wy 9 | exact Gv 9) | exact ame):A:=hs h
section
variable {t:TypeId} {row:Array Value}
def sP (P:Program) (t:TypeId) (row:Array Value):Prop:= ∃ z,(∀ w,(zeroValue t).run P w= .ok z w)/\z.cells=row
theorem fI (S:St B w0 w fs) (hz:sP P t row) (h: ∀ b w',St B w0 w' (.blk b row t::fs)->wL P N ops Q rest ((d,.pointer (some ⟨b,0,none⟩))::l) w') (hw:o.guard=none/\o.dst=some d/\Nat.blt d N=true/\o.op= .alloc t:=by exact ⟨rfl,rfl,rfl,rfl⟩):wL P N ops Q (o::rest) l w:=by
 obtain ⟨z,h1,h2⟩:=hz;exact lZ (V:=λb=> .pointer (some ⟨b,0,none⟩)) S (wn hw.1) hw.2.1 hw.2.2.1 (iY hw.2.2.2 (h1 w) h2) h
theorem kL {C:World->Prop} {n:Nat} {ls ls':List Bool} (j:Nat) (hi':ops[j]? =some o) (S:St B w0 w fs) (hz:sP P t row) (h: ∀ b w',St B w0 w' (.blk b row t::fs)->C w'/\wA P N ops Q C n ls'.toArray ((d,.pointer (some ⟨b,0,none⟩))::l) w') (hl:p8 ls j ls':=by repeat' first | exact p8.z | apply p8.s) (hw:o.guard=none/\o.dst=some d/\Nat.blt d N=true/\o.op= .alloc t:=by exact ⟨rfl,rfl,rfl,rfl⟩):wK P N ops Q C n j ls.toArray l w:=by
 obtain ⟨z,h1,h2⟩:=hz;exact jC (V:=λb=> .pointer (some ⟨b,0,none⟩)) hi' hl.eq S (wn hw.1) hw.2.1 hw.2.2.1 (iY hw.2.2.2 (h1 w) h2) h
end
theorem zr3:sP Tryz.prog 3 #[.int .i64 0]:=⟨_,Tryz.zeroValue3,rfl⟩
theorem EH:sP Tryz.prog 30 #[.int .i64 0,.int .i64 0]:=⟨_,Tryz.zeroValue30,rfl⟩
theorem ad8:sP Tryz.prog 33 #[.int .i64 0,.int .i64 0,.int .i64 0,.int .i64 0,.int .i64 0,.int .i64 0,.int .i64 0,.int .i64 0]:=⟨_,Tryz.zeroValue33,rfl⟩
theorem XY:sP Tryz.prog 38 #[.int .i64 0,.bool false,.bool false,.bool false,.bool false,.bool false,.int .i64 0,.int .i64 0,.int .i64 0,.int .i64 0,.int .i64 0,.int .i64 0,.int .i64 0,.int .i64 0,.slice none 0 0,.slice none 0 0,.slice none 0 0,.int .i64 0]:=⟨_,Tryz.zeroValue38,rfl⟩
theorem fF:sP Tryz.prog 42 #[.int .i64 0,.int .i64 0,.int .i64 0,.int .i64 0,.int .i64 0,.slice none 0 0]:=⟨_,Tryz.zeroValue42,rfl⟩
theorem aik:sP Tryz.prog 54 #[.int .i64 0,.bool false,.bool false,.bool false,.bool false,.bool false,.bool false,.bool false,.bool false]:=⟨_,Tryz.zeroValue54,rfl⟩
theorem XZ:sP Tryz.prog 75 #[.int .i64 0,.int .i64 0,.int .i64 0,.int .i64 0,.int .i64 0,.int .i64 0]:=⟨_,Tryz.zeroValue75,rfl⟩
theorem ad9:sP Tryz.prog 77 #[.int .i64 0,.int .i64 0,.int .i64 0,.int .i64 0,.int .i64 0,.int .i64 0,.int .i64 0,.int .i64 0,.int .i64 0,.int .i64 0,.int .i64 0]:=⟨_,Tryz.zeroValue77,rfl⟩
theorem rT:sP Tryz.prog 79 #[.int .i64 0,.int .i64 0,.int .i64 0,.int .i64 0]:=⟨_,Tryz.zeroValue79,rfl⟩
theorem ar6:sP Tryz.prog 81 #[.int .i64 0,.int .i64 0,.int .i64 0,.int .i64 0,.int .i64 0,.int .i64 0,.int .i64 0]:=⟨_,Tryz.zeroValue81,rfl⟩
theorem ar7:sP Tryz.prog 88 #[.int .i64 0,.int .i64 0]:=⟨_,Tryz.zeroValue88,rfl⟩
theorem amf:sP Tryz.prog 90 #[.int .i64 0,.int .i64 0,.int .i64 0,.int .i64 0]:=⟨_,Tryz.zeroValue90,rfl⟩
theorem xX:sP Tryz.prog 125 #[.slice none 0 0,.int .i64 0]:=⟨_,Tryz.zeroValue125,rfl⟩
theorem apx:sP Tryz.prog 129 #[.int .i64 0,.bool false,.slice none 0 0,.int .i64 0,.slice none 0 0,.int .i64 0,.int .i64 0,.int .i64 0,.int .i64 0,.int .i64 0,.int .i64 0,.int .i64 0,.int .i64 0,.bool false,.bool false,.bool false,.bool false,.slice none 0 0,.nilFunc,.int .i64 0]:=⟨_,Tryz.zeroValue129,rfl⟩
theorem D5:sP Tryz.prog 164 #[.pointer none,.int .i64 0]:=⟨_,Tryz.zeroValue164,rfl⟩
theorem aaL:sP Tryz.prog 169 #[.int .i64 0,.int .i64 0,.int .i64 0,.int .i64 0,.int .i64 0,.int .i64 0,.int .i64 0,.int .i64 0,.int .i64 0,.int .i64 0,.int .i64 0,.int .i64 0,.int .i64 0,.slice none 0 0,.bool false,.int .i64 0,.int .i64 0,.int .i64 0,.int .i64 0,.int .i64 0,.int .i64 0,.int .i64 0,.int .i64 0]:=⟨_,Tryz.zeroValue169,rfl⟩
theorem vJ:sP Tryz.prog 205 #[.int .i64 0,.int .i64 0,.int .i64 0,.int .i64 0,.int .i64 0,.int .i64 0,.int .i64 0,.int .i64 0,.int .i64 0,.int .i64 0]:=⟨_,Tryz.zeroValue205,rfl⟩
theorem apy:sP Tryz.prog 258 #[.nilFunc]:=⟨_,Tryz.zeroValue258,rfl⟩
theorem kZ {a b:Nat} (h:a<=b:=by first | assumption | exact Nat.zero_le _ | (dsimp only;omega) | (simp only [List.length_append,List.length_cons,List.length_nil,List.length_drop,List.length_take] at*;omega)):a<=b:=h
inductive Out:List Fact->Nat->Fact->List Fact->Prop
 | z {f:Fact} {fs:List Fact}:Out (f::fs) 0 f fs
 | s {f g:Fact} {fs gs:List Fact} {i:Nat}:Out fs i f gs->Out (g::fs) (i+1) f (g::gs)
theorem Out.eq {fs gs:List Fact} {i:Nat} {f:Fact} (h:Out fs i f gs):fs[i]? =some f/\fs.eraseIdx i=gs:=by
 induction h with
 | z=>exact ⟨rfl,rfl⟩
 | s _ ih=>exact ⟨by simpa using ih.1,by rw [List.eraseIdx_cons_succ,ih.2]⟩
inductive Brs:List Fact->List Nat->List Fact->Prop
 | z {fs:List Fact}:Brs fs [] fs
 | s {fs gs hs:List Fact} {i:Nat} {is:List Nat} {f:Fact}:Out fs i f gs->Brs (f::gs) is hs->Brs fs (i::is) hs
theorem St.dO {gs:List Fact} (S:St B w0 w fs) (is:List Nat) (h:Brs fs is gs:=by repeat' first | exact Brs.z | exact Out.z | apply Brs.s | apply Out.s):St B w0 w gs:=by
 induction h with
 | z=>exact S
 | s h _ ih=>
  obtain ⟨h1,h2⟩:=h.eq;have:=S.bring _ h1;rw [h2] at this;exact ih this
inductive PK:List Fact->List Nat->List Fact->Prop
 | z {fs:List Fact}:PK fs [] fs
 | s {fs gs hs:List Fact} {i:Nat} {is:List Nat} {f:Fact}:Out fs i f gs->PK gs is hs->PK fs (i::is) hs
theorem St.aR {gs:List Fact} (S:St B w0 w fs) (is:List Nat) (h:PK fs is gs:=by repeat' first | exact PK.z | exact Out.z | apply PK.s | apply Out.s):St B w0 w gs:=by
 induction h with
 | z=>exact S
 | s h _ ih=>
  refine ih ?_;rw [<-h.eq.2];exact S.del _
section
variable {id n m:Nat} {os:List Oper} {gs:List Fact}
theorem aI (n:Nat) (S:St B w0 w.drew gs) (is:List Nat) (h:wA P N os.toArray Q (λw'=>St B w0 w' fs) n (List.replicate n false).toArray l w.drew) (hd:PK gs is fs:=by repeat' first | exact PK.z | exact Out.z | apply PK.s | apply Out.s) (hm:P.follows .mixedOrders=true:=by exact mixed) (hn:os.length=n:=by exact rfl):wC P N (.region id os.toArray true) Q l w:=Gq hm hn (by simp) h
theorem eO (m n:Nat) (S:St B w0 w.drew gs) (is:List Nat) (h:wG P N os.toArray Q (λw'=>St B w0 w' fs) n m (List.replicate m false).toArray l w.drew) (hd:PK gs is fs:=by repeat' first | exact PK.z | exact Out.z | apply PK.s | apply Out.s) (hm:P.follows .mixedOrders=true:=by exact mixed) (hn:os.length=m:=by exact rfl):wC P N (.region id os.toArray true) Q l w:=zw n hm hn (by simp) h
end
inductive Bc:List Value->Nat->List Value->List Value->Prop
 | n {l:List Value}:Bc l 0 [] l
 | c {x y:Value} {l cs l':List Value}:Bc l 0 cs l'->Bc (x::l) 0 (y::cs) (y::l')
 | s {x:Value} {i:Nat} {l cs l':List Value}:Bc l i cs l'->Bc (x::l) (i+1) cs (x::l')
theorem Bc.spec {l cs l':List Value} {i:Nat} (h:Bc l i cs l'):i+cs.length<=l.length/\l.take i++cs++l.drop (i+cs.length)=l':=by
 induction h with
 | n=>simp
 | c _ ih=>obtain ⟨h1,h2⟩:=ih;simp only [List.take_zero,List.nil_append,Nat.zero_add,List.length_cons,List.cons_append,List.drop_succ_cons] at h1 h2⊢;exact ⟨by omega,by rw [h2]⟩
 | @s x i l cs l' _ ih=>obtain ⟨h1,h2⟩:=ih;refine ⟨by simp;omega,?_⟩;rw [show i+1+cs.length=(i+cs.length)+1 by omega,List.take_succ_cons,List.drop_succ_cons,List.cons_append,List.cons_append,h2]
theorem Bc.eq {l cs l':List Value} {i:Nat} (h:Bc l i cs l'):bZ l.toArray i cs=l'.toArray:=by
 obtain ⟨h1,h2⟩:=h.spec;apply Array.toList_inj.1;rw [gI _ _ _ (by simpa using h1)];simpa using h2
section
variable {b m off:Nat} {rw_ rw':List Value} {cs:Array Value} {t ty:TypeId} {x y:Operand}
theorem FM (i:Nat) (S:St B w0 w fs) (hz:(P.info? ty).map (·.size)=some m) (h: ∀ w',St B w0 w' fs'->wL P N ops Q rest l w') (hw:o.guard=none/\o.dst=none/\o.op= .store ty x y/\ev l x=some (.pointer (some ⟨b,off,none⟩))/\ev l y=some v:=by exact ⟨rfl,rfl,rfl,rfl,rfl⟩) (hi:fs[i]? =some (.blk b rw_.toArray t):=by exact rfl) (hv:v.cells=cs:=by exact rfl) (hm:cs.size=m:=by exact rfl) (h1: ∀ u∈cs.toList,u.oneCell'=true:=by exact bT rfl) (hr:Nat.ble (off+m) rw_.toArray.size=true:=by exact rfl) (hs:Bc rw_ off cs.toList rw':=by repeat' first | exact Bc.n | apply Bc.c | apply Bc.s) (hf:iB (.blk b rw'.toArray t) fs i fs':=by repeat' first | exact iB.z | apply iB.s):wL P N ops Q (o::rest) l w:=DU i S (wn hw.1) hw.2.1 hw.2.2.1 hw.2.2.2.1 hw.2.2.2.2 hi hv hz hm h1 (Nat.le_of_ble_eq_true hr) hs.eq hf.eq h
end
section
variable {C:World->Prop} {n:Nat} {ls ls':List Bool} {row:Array Value} {t tt:TypeId} {x:Operand}
theorem iC (S:St B w0 w fs) (h: ∀ b w',St B w0 w' (.blk b row t::fs)->wL P N ops Q rest ((d,.pointer (some ⟨b,0,none⟩))::l) w') (hw:o.guard=none/\o.dst=some d/\Nat.blt d N=true/\o.op= .box t x/\ev l x=some (.agg row):=by exact ⟨rfl,rfl,rfl,rfl,rfl⟩):wL P N ops Q (o::rest) l w:=lZ (V:=λb=> .pointer (some ⟨b,0,none⟩)) S (wn hw.1) hw.2.1 hw.2.2.1 (aay hw.2.2.2.1 hw.2.2.2.2 rfl) h
theorem Sq (S:St B w0 w fs) (h: ∀ b w',St B w0 w' (.blk b #[v] t::fs)->wL P N ops Q rest ((d,.pointer (some ⟨b,0,none⟩))::l) w') (hw:o.guard=none/\o.dst=some d/\Nat.blt d N=true/\o.op= .box t x/\ev l x=some v:=by exact ⟨rfl,rfl,rfl,rfl,rfl⟩) (hv:v.cells= #[v]:=by exact rfl):wL P N ops Q (o::rest) l w:=lZ (V:=λb=> .pointer (some ⟨b,0,none⟩)) S (wn hw.1) hw.2.1 hw.2.2.1 (aay hw.2.2.2.1 hw.2.2.2.2 hv) h
theorem X0 (S:St B w0 w fs) (h: ∀ b w',St B w0 w' (.blk b row tt::fs)->wL P N ops Q rest ((d,.slice (some ⟨b,0,none⟩) 1 1)::l) w') (hw:o.guard=none/\o.dst=some d/\Nat.blt d N=true/\o.op= .buildSlice t 1 [(0,x)].toArray/\ev l x=some (.agg row):=by exact ⟨rfl,rfl,rfl,rfl,rfl⟩) (hu:P.underlying t=some (.slice tt):=by exact Sn) (hr:(Instr.buildSlice t 1 [(0,Value.agg row)].toArray).run P w= .ok (.slice (some ⟨w.heap.size,0,none⟩) 1 1) (w.alloc (.cells row tt)):=by kernel_rfl):wL P N ops Q (o::rest) l w:=lZ (V:=λb=> .slice (some ⟨b,0,none⟩) 1 1) S (wn hw.1) hw.2.1 hw.2.2.1 (aP (vs:=[(0,.agg row)]) hw.2.2.2.1 ⟨rfl,hw.2.2.2.2,trivial⟩ hr) h
theorem bsI (S:St B w0 w fs) (h: ∀ b w',St B w0 w' (.blk b #[v] tt::fs)->wL P N ops Q rest ((d,.slice (some ⟨b,0,none⟩) 1 1)::l) w') (hw:o.guard=none/\o.dst=some d/\Nat.blt d N=true/\o.op= .buildSlice t 1 [(0,x)].toArray/\ev l x=some v:=by exact ⟨rfl,rfl,rfl,rfl,rfl⟩) (hu:P.underlying t=some (.slice tt):=by exact Sn) (hr:(Instr.buildSlice t 1 [(0,v)].toArray).run P w= .ok (.slice (some ⟨w.heap.size,0,none⟩) 1 1) (w.alloc (.cells #[v] tt)):=by kernel_rfl):wL P N ops Q (o::rest) l w:=lZ (V:=λb=> .slice (some ⟨b,0,none⟩) 1 1) S (wn hw.1) hw.2.1 hw.2.2.1 (aP (vs:=[(0,v)]) hw.2.2.2.1 ⟨rfl,hw.2.2.2.2,trivial⟩ hr) h
theorem EI (j:Nat) (hi':ops[j]? =some o) (S:St B w0 w fs) (h: ∀ b w',St B w0 w' (.blk b row tt::fs)->C w'/\wA P N ops Q C n ls'.toArray ((d,.slice (some ⟨b,0,none⟩) 1 1)::l) w') (hl:p8 ls j ls':=by repeat' first | exact p8.z | apply p8.s) (hw:o.guard=none/\o.dst=some d/\Nat.blt d N=true/\o.op= .buildSlice t 1 [(0,x)].toArray/\ev l x=some (.agg row):=by exact ⟨rfl,rfl,rfl,rfl,rfl⟩) (hu:P.underlying t=some (.slice tt):=by exact Sn) (hr:(Instr.buildSlice t 1 [(0,Value.agg row)].toArray).run P w= .ok (.slice (some ⟨w.heap.size,0,none⟩) 1 1) (w.alloc (.cells row tt)):=by kernel_rfl):wK P N ops Q C n j ls.toArray l w:=jC (V:=λb=> .slice (some ⟨b,0,none⟩) 1 1) hi' hl.eq S (wn hw.1) hw.2.1 hw.2.2.1 (aP (vs:=[(0,.agg row)]) hw.2.2.2.1 ⟨rfl,hw.2.2.2.2,trivial⟩ hr) h
end
inductive vV (l:Slots):List Operand->List Value->Prop
 | z:vV l [] []
 | s {x:Operand} {xs:List Operand} {v:Value} {vs:List Value}:ev l x=some v->vV l xs vs->vV l (x::xs) (v::vs)
theorem vV.evs {xs:List Operand} {vs:List Value} (h:vV l xs vs):NM l xs vs:=by
 induction h with
 | z=>exact trivial
 | s h _ ih=>exact ⟨h,ih⟩
section
variable {f:FuncId} {first cap us vs:List Value} {x:Operand} {xs ys:List Operand} {ts:Array TypeId} {R:Ending->World->Prop}
theorem uQ (Kt: ∀ args w,(callFunc f args).run P w= .ok (.enter f args) w) (hc:Calls P f us.toArray w R) (h: ∀ e w',R e w'-> ∃ v,e= .returned v/\wL P N ops Q rest ((d,v)::l) w') (hw:o.guard=none/\o.dst=some d/\Nat.blt d N=true/\o.op= .call { callee:= .value x,args:=xs.toArray,argTypes:=ts }:=by exact ⟨rfl,rfl,rfl,rfl⟩) (hv:ev l x=some (.func (.func f) first.toArray cap.toArray):=by exact rfl) (hx:vV l xs vs:=by repeat' first | exact vV.z | apply vV.s rfl) (hu:first++vs++cap=us:=by exact rfl):wL P N ops Q (o::rest) l w:=Gn (wn hw.1) hw.2.1 hw.2.2.1 (Wt hw.2.2.2 hv Kt hx.evs hu) hc h
theorem kC {C:World->Prop} {n:Nat} {ls ls':List Bool} (j:Nat) (hi':ops[j]? =some o) (Kt: ∀ args w,(callFunc f args).run P w= .ok (.enter f args) w) (hc:Calls P f us.toArray w R) (h: ∀ e w',R e w'-> ∃ v,e= .returned v/\C w'/\wA P N ops Q C n ls'.toArray ((d,v)::l) w') (hl:p8 ls j ls':=by repeat' first | exact p8.z | apply p8.s) (hw:o.guard=none/\o.dst=some d/\Nat.blt d N=true/\o.op= .call { callee:= .value x,args:=xs.toArray,argTypes:=ts }:=by exact ⟨rfl,rfl,rfl,rfl⟩) (hv:ev l x=some (.func (.func f) first.toArray cap.toArray):=by exact rfl) (hx:vV l xs vs:=by repeat' first | exact vV.z | apply vV.s rfl) (hu:first++vs++cap=us:=by exact rfl):wK P N ops Q C n j ls.toArray l w:=vG hi' hl.eq (wn hw.1) hw.2.1 hw.2.2.1 (Wt hw.2.2.2 hv Kt hx.evs hu) hc h
theorem jw {C:World->Prop} {n:Nat} {ls ls':List Bool} (j:Nat) (hi':ops[j]? =some o) (Kt: ∀ args w,(callFunc f args).run P w= .ok (.enter f args) w) (hc:Calls P f vs.toArray w R) (h: ∀ e w',R e w'-> ∃ v,e= .returned v/\C w'/\wA P N ops Q C n ls'.toArray ((d,v)::l) w') (hl:p8 ls j ls':=by repeat' first | exact p8.z | apply p8.s) (hw:o.guard=none/\o.dst=some d/\Nat.blt d N=true/\(o.op= .call { callee:= .value (.func f),args:=xs.toArray,argTypes:=ts }):=by exact ⟨rfl,rfl,rfl,rfl⟩) (hx:NM l xs vs:=by repeat' first | exact trivial | refine ⟨rfl,?_⟩):wK P N ops Q C n j ls.toArray l w:=vG hi' hl.eq (wn hw.1) hw.2.1 hw.2.2.1 (iO hw.2.2.2 Kt hx) hc h
theorem Hy {g:Fn} (ho:o.op= .makeFunc g xs.toArray ys.toArray:=by exact rfl) (hx:vV l xs vs:=by repeat' first | exact vV.z | apply vV.s rfl) (hy:vV l ys us:=by repeat' first | exact vV.z | apply vV.s rfl):gK P N l o w (.func g vs.toArray us.toArray):=Jm ho hx.evs hy.evs
end
inductive Lm (l:Slots):List (Nat×Operand)->List (Nat×Value)->Prop
 | z:Lm l [] []
 | s {i:Nat} {x:Operand} {xs:List (Nat×Operand)} {v:Value} {vs:List (Nat×Value)}:ev l x=some v->Lm l xs vs->Lm l ((i,x)::xs) ((i,v)::vs)
theorem Lm.evp {xs:List (Nat×Operand)} {vs:List (Nat×Value)} (h:Lm l xs vs):EvP l xs vs:=by
 induction h with
 | z=>exact trivial
 | s h _ ih=>exact ⟨rfl,h,ih⟩
theorem fQ {t:TypeId} {xs:List (Nat×Operand)} {vs:List (Nat×Value)} (ho:o.op= .build t xs.toArray:=by exact rfl) (hx:Lm l xs vs:=by repeat' first | exact Lm.z | apply Lm.s rfl) (hr:(Instr.build t vs.toArray).run P w= .ok v w:=by kernel_rfl):gK P N l o w v:=Ck ho hx.evp hr
section
variable {kd:IntKind} {xo yo:Operand} {x y z:Int} {t tt:TypeId}
theorem jh (ho:o.op= .binOp .add t xo yo tt/\ev l xo=some (.int .i64 x)/\ev l yo=some (.int .i64 y):=by exact ⟨rfl,rfl,rfl⟩) (hz:x+y=z:=by omega) (h: -9223372036854775808<=z/\z<=9223372036854775807:=by omega):gK P N l o w (.int .i64 z):=aO ho.1 ho.2.1 ho.2.2 (aaz hz h)
theorem ysu (ho:o.op= .binOp .sub t xo yo tt/\ev l xo=some (.int .i64 x)/\ev l yo=some (.int .i64 y):=by exact ⟨rfl,rfl,rfl⟩) (hz:x-y=z:=by omega) (h: -9223372036854775808<=z/\z<=9223372036854775807:=by omega):gK P N l o w (.int .i64 z):=aO ho.1 ho.2.1 ho.2.2 (aoy hz h)
theorem ku {p e:TypeId} {b off n c s:Nat} {i:Int} {xo yo:Operand} (k:Nat) (ho:o.op= .indexAddr p xo yo/\ev l xo=some (.slice (some ⟨b,off,none⟩) n c)/\ev l yo=some (.int kd i):=by exact ⟨rfl,rfl,rfl⟩) (hu:P.underlying p=some (.slice e):=by exact Sn) (hz:(P.info? e).map (·.size)=some s:=by exact iiQ) (hik:i=k:=by first | rfl | omega | simp) (hk:k<n:=by first | omega | simp | decide):gK P N l o w (.pointer (some ⟨b,off+k*s,none⟩)):=bD ho.1 ho.2.1 ho.2.2 (rF k hu hz hik hk)
end
section
variable {b m off:Nat} {row row' cs:Array Value} {t ty:TypeId} {x y:Operand} {C:World->Prop} {n:Nat} {ls ls':List Bool}
theorem je (i:Nat) (S:St B w0 w fs) (hz:(P.info? ty).map (·.size)=some m) (h: ∀ w',St B w0 w' fs'->wL P N ops Q rest l w') (hw:o.guard=none/\o.dst=none/\o.op= .store ty x y/\ev l x=some (.pointer (some ⟨b,off,none⟩))/\ev l y=some v:=by exact ⟨rfl,rfl,rfl,rfl,rfl⟩) (hi:fs[i]? =some (.blk b row t):=by exact rfl) (hv:v.cells=cs:=by exact rfl) (hm:cs.size=m:=by exact rfl) (h1: ∀ u∈cs.toList,u.oneCell'=true:=by exact bT rfl) (hr:Nat.ble (off+m) row.size=true:=by exact rfl) (hs:bZ row off cs.toList=row':=by exact rfl) (hf:iB (.blk b row' t) fs i fs':=by repeat' first | exact iB.z | apply iB.s):wL P N ops Q (o::rest) l w:=DU i S (wn hw.1) hw.2.1 hw.2.2.1 hw.2.2.2.1 hw.2.2.2.2 hi hv hz hm h1 (Nat.le_of_ble_eq_true hr) hs hf.eq h
theorem stA (i:Nat) (S:St B w0 w fs) (hz:(P.info? ty).map (·.size)=some m) (h: ∀ w',St B w0 w' fs'->wL P N ops Q rest l w') (hw:o.guard=none/\o.dst=none/\o.op= .store ty x y/\ev l x=some (.pointer (some ⟨b,0,none⟩))/\ev l y=some v:=by exact ⟨rfl,rfl,rfl,rfl,rfl⟩) (hi:fs[i]? =some (.blk b row t):=by exact rfl) (hv:v.cells=cs:=by exact rfl) (hm:cs.size=m:=by exact rfl) (h1: ∀ u∈cs.toList,u.oneCell'=true:=by exact bT rfl) (hs:row.size=cs.size:=by exact rfl) (hr:Nat.ble (0+m) row.size=true:=by exact rfl) (hf:iB (.blk b cs t) fs i fs':=by repeat' first | exact iB.z | apply iB.s):wL P N ops Q (o::rest) l w:=DU i S (wn hw.1) hw.2.1 hw.2.2.1 hw.2.2.2.1 hw.2.2.2.2 hi hv hz hm h1 (Nat.le_of_ble_eq_true hr) (qz hs) hf.eq h
theorem snz (j:Nat) (hi':ops[j]? =some o) (i:Nat) (S:St B w0 w fs) (hz:(P.info? ty).map (·.size)=some m) (h: ∀ w',St B w0 w' fs'->C w'/\wA P N ops Q C n ls'.toArray l w') (hl:p8 ls j ls':=by repeat' first | exact p8.z | apply p8.s) (hw:o.guard=none/\o.dst=none/\o.op= .store ty x y/\ev l x=some (.pointer (some ⟨b,off,none⟩))/\ev l y=some v:=by exact ⟨rfl,rfl,rfl,rfl,rfl⟩) (hi:fs[i]? =some (.blk b row t):=by exact rfl) (hv:v.cells=cs:=by exact rfl) (hm:cs.size=m:=by exact rfl) (h1: ∀ u∈cs.toList,u.oneCell'=true:=by exact bT rfl) (hr:Nat.ble (off+m) row.size=true:=by exact rfl) (hs:bZ row off cs.toList=row':=by exact rfl) (hf:iB (.blk b row' t) fs i fs':=by repeat' first | exact iB.z | apply iB.s):wK P N ops Q C n j ls.toArray l w:=sO hi' hl.eq i S (wn hw.1) hw.2.1 hw.2.2.1 hw.2.2.2.1 hw.2.2.2.2 hi hv hz hm h1 (Nat.le_of_ble_eq_true hr) hs hf.eq h
theorem X4 (j:Nat) (hi':ops[j]? =some o) (i:Nat) (S:St B w0 w fs) (hz:(P.info? ty).map (·.size)=some m) (h: ∀ w',St B w0 w' fs'->C w'/\wA P N ops Q C n ls'.toArray l w') (hl:p8 ls j ls':=by repeat' first | exact p8.z | apply p8.s) (hw:o.guard=none/\o.dst=none/\o.op= .store ty x y/\ev l x=some (.pointer (some ⟨b,0,none⟩))/\ev l y=some v:=by exact ⟨rfl,rfl,rfl,rfl,rfl⟩) (hi:fs[i]? =some (.blk b row t):=by exact rfl) (hv:v.cells=cs:=by exact rfl) (hm:cs.size=m:=by exact rfl) (h1: ∀ u∈cs.toList,u.oneCell'=true:=by exact bT rfl) (hs:row.size=cs.size:=by exact rfl) (hr:Nat.ble (0+m) row.size=true:=by exact rfl) (hf:iB (.blk b cs t) fs i fs':=by repeat' first | exact iB.z | apply iB.s):wK P N ops Q C n j ls.toArray l w:=sO hi' hl.eq i S (wn hw.1) hw.2.1 hw.2.2.1 hw.2.2.2.1 hw.2.2.2.2 hi hv hz hm h1 (Nat.le_of_ble_eq_true hr) (qz hs) hf.eq h
end
end
end
section
open ChangeShapes WideShapes ChangeAt RowKit
theorem PL {α:Type} {enc:α->List Value} {sz:Nat} (hsz: ∀ x,(enc x).length=sz): ∀ (k:Nat) (l:List α),(l.flatMap enc).drop (k*sz)=(l.drop k).flatMap enc
 | 0,l=>by simp
 | k+1,[]=>by simp
 | k+1,x::l=>by rw [List.flatMap_cons,Nat.succ_mul,Nat.add_comm,<-List.drop_drop,List.drop_left' (hsz x),PL hsz k l];rfl
theorem PN {α:Type} {enc:α->List Value} {sz:Nat} (hsz: ∀ x,(enc x).length=sz): ∀ (k:Nat) (l:List α),(l.flatMap enc).take (k*sz)=(l.take k).flatMap enc
 | 0,l=>by simp
 | k+1,[]=>by simp
 | k+1,x::l=>by rw [List.flatMap_cons,Nat.succ_mul,Nat.add_comm,List.take_append,hsz x,List.take_of_length_le (by rw [hsz x];omega),Nat.add_sub_cancel_left,PN hsz k l];rfl
theorem AQ {P:Program} {t e:TypeId} {α:Type} {enc:α->List Value} {s:Nat} (hsz: ∀ x,(enc x).length=s) {A:Option Addr} {b:List α} {n c:Nat} {lo hi mx:Option Value} {l k q m c':Nat} (hu:P.underlying t=some (.slice e)) (hz:(P.info? e).map (·.size)=some s) (hb: ∀ w,(Instr.sliceBounds true n c lo hi mx).run P w= .ok (l,k,q) w)
  (hlk:l<=k) (hkn:k<=n) (hkq:k<=q) (hm:k-l=m) (hc:q-l=c'): ∃ A',(∀ w,(Instr.sliceAt t (.slice A n c) lo hi mx).run P w= .ok (.slice A' m c') w)/\(∀ (w:World) (B:Nat),Rd w B s A n (b.flatMap enc)->Rd w B s A' m (((b.drop l).take m).flatMap enc))/\ ∀ a',A'=some a'-> ∃ a,A=some a/\a.block=a'.block:=by
 subst hm;subst hc;obtain ⟨A',h1,h2,h3⟩:=zS (A:=A) hu hz hb hlk hkn hkq;refine ⟨A',h1,λw B hR=>?_,h3⟩
 replace h2:=h2 w B _ hR
 rw [PL hsz,PN hsz] at h2;exact h2
end
section
open ChangeShapes WideShapes RowKit
structure Ac where
 kd:Int
 nd:Int
 qu:Int
 at_:Int
 kp:Int
 ek:Int
 ep:Int
 ei:Int
 eb:Int
 eh:Int
 en:Int
def Ac.ints (x:Ac):List Int:=[x.kd,x.nd,x.qu,x.at_,x.kp,x.ek,x.ep,x.ei,x.eb,x.eh,x.en]
def Kk (l:List Int):List Value:=l.map (Value.int .i64)
def Ac.cells (x:Ac):List Value:=[iV x.kd,iV x.nd,iV x.qu,iV x.at_,iV x.kp,iV x.ek,iV x.ep,iV x.ei,iV x.eb,iV x.eh,iV x.en]
theorem Ac.ab8 (x:Ac):x.cells=Kk x.ints:=rfl
def Ac.get (x:Ac) (i:Nat):Int:=x.ints.getD i 0
theorem Ac.cell (x:Ac) {i:Nat} (h:i<11):x.cells[i]? =some (iV (x.get i)):=by
 rw [Ac.ab8,Kk,List.getElem?_map,List.getElem?_eq_getElem (by exact h)];have e:x.get i=x.ints[i]'h:=by simp only [Ac.get,List.getD_eq_getElem?_getD,List.getElem?_eq_getElem (show i<x.ints.length from h),Option.getD_some];rfl
 rw [e];rfl
def bM (kd ek:Int):Option (List (Nat×Int)):=
 if kd=1 then some [(2,3),(1,4)] else if kd=10 then some [(2,3),(1,4)] else if kd=3 then some [(1,4)] else if kd=9 then some [(1,4)]
 else if kd=8 then some [(1,4),(4,100000)] else if kd=4 then some [(3,1048576)] else if kd=5 then some [(3,1048576)] else if kd=6 then some [(3,1048576)]
 else if kd=7 then some [] else if kd=2 then (if ek=1 then some [(1,4),(2,3),(6,3),(7,1073741824),(8,1000000)] else if ek=2 then some [(1,4),(2,3)]
 else if ek=3 then some [(1,4),(2,3),(9,1048576),(10,1073741824)] else none) else none
theorem kinds (kd ek:Int):kd=1\/kd=10\/kd=3\/kd=9\/kd=8\/kd=4\/kd=5\/kd=6\/kd=7\/(kd=2/\ek=1)\/(kd=2/\ek=2)\/(kd=2/\ek=3)\/bM kd ek=none:=by
 by_cases h1:kd=1
 ·simp [h1]
 by_cases h10:kd=10
 ·simp [h10]
 by_cases h3:kd=3
 ·simp [h3]
 by_cases h9:kd=9
 ·simp [h9]
 by_cases h8:kd=8
 ·simp [h8]
 by_cases h4:kd=4
 ·simp [h4]
 by_cases h5:kd=5
 ·simp [h5]
 by_cases h6:kd=6
 ·simp [h6]
 by_cases h7:kd=7
 ·simp [h7]
 by_cases h2:kd=2
 ·by_cases e1:ek=1
  ·simp [h2,e1]
  by_cases e2:ek=2
  ·simp [h2,e2]
  by_cases e3:ek=3
  ·simp [h2,e3]
  simp [bM,h2,e1,e2,e3]
 simp [bM,h2,h1,h10,h3,h9,h8,h4,h5,h6,h7]
theorem M9 {kd ek:Int} {l:List (Nat×Int)} (h:bM kd ek=some l): ∀ p∈l,1<=p.1/\p.1<11/\p.1≠5:=by
 rcases kinds kd ek with rfl | rfl | rfl | rfl | rfl | rfl | rfl | rfl | rfl | ⟨rfl,rfl⟩ | ⟨rfl,rfl⟩ | ⟨rfl,rfl⟩ | hn
 all_goals first | (rw [hn] at h;cases h;done) | (simp [bM] at h;subst h;decide)
theorem ab9 {kd ek:Int} {l:List (Nat×Int)} (h:bM kd ek=some l):l.length<=5:=by
 rcases kinds kd ek with rfl | rfl | rfl | rfl | rfl | rfl | rfl | rfl | rfl | ⟨rfl,rfl⟩ | ⟨rfl,rfl⟩ | ⟨rfl,rfl⟩ | hn
 all_goals first | (rw [hn] at h;cases h;done) | (simp [bM] at h;subst h;decide)
def Lp (x:Ac) (p:Nat×Int):Bool:=decide (0<=x.get p.1/\x.get p.1<=p.2)
def xY (c:List Int) (l:List (Nat×Int)):List Int:=l.foldl (λc p=>c.set p.1 0) c
def fin (x:Ac) (l:List (Nat×Int)):List Int:=(if x.kd=2 then (xY x.ints l).set 5 0 else xY x.ints l).set 0 0
def zeros:List Int:=[0,0,0,0,0,0,0,0,0,0,0]
def dK (x:Ac):Int:=match bM x.kd x.ek with
 | none=>3
 | some l=>if l.all (Lp x)=true then (if fin x l=zeros then 0 else 3) else 2
def keep (x:Ac):Ac:=
 if x.kd=1 then ⟨x.kd,x.nd,x.qu,0,0,0,0,0,0,0,0⟩ else if x.kd=10 then ⟨x.kd,x.nd,x.qu,0,0,0,0,0,0,0,0⟩ else if x.kd=3 then ⟨x.kd,x.nd,0,0,0,0,0,0,0,0,0⟩ else if x.kd=9 then ⟨x.kd,x.nd,0,0,0,0,0,0,0,0,0⟩
 else if x.kd=8 then ⟨x.kd,x.nd,0,0,x.kp,0,0,0,0,0,0⟩ else if x.kd=4 then ⟨x.kd,0,0,x.at_,0,0,0,0,0,0,0⟩ else if x.kd=5 then ⟨x.kd,0,0,x.at_,0,0,0,0,0,0,0⟩ else if x.kd=6 then ⟨x.kd,0,0,x.at_,0,0,0,0,0,0,0⟩
 else if x.kd=7 then ⟨x.kd,0,0,0,0,0,0,0,0,0,0⟩ else if x.ek=1 then ⟨x.kd,x.nd,x.qu,0,0,x.ek,x.ep,x.ei,x.eb,0,0⟩ else if x.ek=2 then ⟨x.kd,x.nd,x.qu,0,0,x.ek,0,0,0,0,0⟩ else ⟨x.kd,x.nd,x.qu,0,0,x.ek,0,0,0,x.eh,x.en⟩
theorem acd {x:Ac} {l:List (Nat×Int)} (h:bM x.kd x.ek=some l):x.ints=(keep x).ints↔fin x l=zeros:=by
 obtain ⟨kd,nd,qu,at_,kp,ek,ep,ei,eb,eh,en⟩:=x
 rcases kinds kd ek with rfl | rfl | rfl | rfl | rfl | rfl | rfl | rfl | rfl | ⟨rfl,rfl⟩ | ⟨rfl,rfl⟩ | ⟨rfl,rfl⟩ | hn
 all_goals first | (dsimp only at h;rw [hn] at h;cases h) | (simp [bM] at h;subst h;simp [Ac.ints,keep,fin,xY,zeros];try omega)
theorem afL {x y:Ac} (h:x.ints=y.ints):x=y:=by
 obtain ⟨a1,a2,a3,a4,a5,a6,a7,a8,a9,a10,a11⟩:=x;obtain ⟨b1,b2,b3,b4,b5,b6,b7,b8,b9,b10,b11⟩:=y;simpa [Ac.ints] using h
section
variable {x:Ac} {l:List (Nat×Int)}
theorem Wz (h:bM x.kd x.ek=none):dK x=3:=by unfold dK;rw [h]
theorem Ip (h:bM x.kd x.ek=some l) (ha: ¬ l.all (Lp x)=true):dK x=2:=by unfold dK;rw [h];exact if_neg ha
theorem Na (h:bM x.kd x.ek=some l) (ha:l.all (Lp x)=true) (hf: ¬ fin x l=zeros):dK x=3:=by unfold dK;rw [h];simp only [if_pos ha,if_neg hf]
theorem ahB (h:bM x.kd x.ek=some l) (ha:l.all (Lp x)=true) (hf:fin x l=zeros):dK x=0:=by unfold dK;rw [h];simp only [if_pos ha,if_pos hf]
theorem ace {k:Nat} {p:Nat×Int} (h:l[k]? =some p) (ha:(l.take k).all (Lp x)=true) (hp:0<=x.get p.1/\x.get p.1<=p.2):(l.take (k+1)).all (Lp x)=true:=by
 rw [List.take_add_one,h,List.all_append,ha];simp [Lp,hp]
theorem WA {k:Nat} {p:Nat×Int} (h:l[k]? =some p) (hp: ¬ (0<=x.get p.1/\x.get p.1<=p.2)): ¬ l.all (Lp x)=true:=λha=>by
 have:=List.all_eq_true.1 ha p (List.mem_of_getElem? h);simp only [Lp,decide_eq_true_eq] at this;exact hp this
theorem acf {c:List Int} {k:Nat} {p:Nat×Int} (h:l[k]? =some p):(xY c (l.take k)).set p.1 0=xY c (l.take (k+1)):=by
 unfold xY;rw [List.take_add_one,h,List.foldl_append];rfl
theorem wJ (c:List Int): ∀ (l:List (Nat×Int)),(xY c l).length=c.length
 | []=>rfl
 | p::l=>by
  show (xY (c.set p.1 0) l).length=_
  rw [wJ _ l,List.length_set]
theorem PO: ∀ (l:List (Nat×Int)) (c:List Int),(∀ p∈l,1<=p.1)->(xY c l)[0]? =c[0]?
 | [],_,_=>rfl
 | p::l,c,h=>by
  show (xY (c.set p.1 0) l)[0]? =_
  rw [PO l _ λq hq=>h q (List.mem_cons_of_mem _ hq),List.getElem?_set_ne (by have:=h p (List.mem_cons_self ..);omega)]
end
def ou (c:List Int):Array Value:=(Kk c).toArray
theorem l5 {c:List Int} (h:c.length=11):(ou c).size=11:=by simp [ou,Kk,h]
theorem X6 {c:List Int} {i:Nat} {v:Int} (h:c[i]? =some v):(ou c)[i]? =some (iV v):=by simp [ou,Kk,h]
theorem zT {c:List Int} {i:Nat}:(ou c).setIfInBounds i (iV 0)=ou (c.set i 0):=by
 apply Array.toList_inj.1;simp [ou,Kk,Array.toList_setIfInBounds,List.map_set]
theorem afM:flat Tryz.prog 30 77=some (List.replicate 11 (.at_ (.int .i64))):=by kernel_rfl
theorem afN:Gl Tryz.prog 30 77=true:=by kernel_rfl
theorem ak9 (xs:List Value):mkV Tryz.prog 77 xs= .agg xs.toArray:=by
 unfold mkV;rw [Tryz.underlying77]
theorem abo {a b:List Int} (ha:a.length=11) (hb:b.length=11) (w:World):(binOp .neq 77 (.agg (ou a)) (.agg (ou b))).run Tryz.prog w= .ok (.bool (!decide (a=b))) w:=by
 have k1:=wE a;have k2:=wE b;rw [ha] at k1;rw [hb] at k2;have h:=vE (P:=Tryz.prog) w afM afN ak9 k1 k2;rw [xS (by rw [ha,hb])] at h;exact h
end
end Go.Proofs.YtbffmhpkenoogaaGreatDoor
