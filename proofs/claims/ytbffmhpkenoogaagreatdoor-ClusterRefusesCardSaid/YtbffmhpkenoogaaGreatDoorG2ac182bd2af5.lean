/- Parts of proofs: lemmas on memory, on single functions and on the plain models; no condition of their own. -/
import Derived.Test.YtbffmhpkenoogaaGreatDoorG2604f5d52928
import Derived.Test.YtbffmhpkenoogaaGreatDoorG46ca770715c5
import Derived.Test.YtbffmhpkenoogaaGreatDoorGcca0d74c8152
set_option linter.unusedVariables false
set_option linter.unusedSimpArgs false
set_option linter.unnecessarySimpa false
set_option maxRecDepth 100000
set_option maxHeartbeats 8000000

namespace Go.Proofs.YtbffmhpkenoogaaGreatDoor
open Go.ChangeShapes Go.WideShapes Go.ChangeAt Go.RowKit
theorem iI {l:Slots} {x:Operand} {v:Value} (h:ev l x=some v):EvO l (some x) (some v):=h
theorem mD {l:Slots}:EvO l none none:=trivial
theorem ai4 {kd:IntKind} {a b:Int} (h:a=b):some (Value.int kd a)=some (Value.int kd b):=by rw [h]
section
variable {P:Program} {w:World} {t e:TypeId} {A:Option Addr} {n c s B:Nat} {xs:List Value} {kd ke kf:IntKind}
theorem og {i:Int} (k y:Nat) (code:BoundsCode) (hik:i=k) (hy:k≤y) (w:World):(Instr.sliceBound (.int kd i) y code).run P w= .ok k w:=by
 subst hik;have h1:(0:Int)≤k∧(k:Int)≤y:=by omega
 simp [Instr.sliceBound,asIntOf,Sem.run_bind,Result.andThen,h1,hy]
theorem ab0 {i:Int} (l:Nat) (hi:i=l) (h:l≤n) (w:World):(Instr.sliceBounds true n c (some (.int kd i)) none none).run P w= .ok (l,n,c) w:=by
 simp [Instr.sliceBounds,Sem.run_bind,Result.andThen,og l n _ hi h]
theorem asl {i:Int} (k:Nat) (hi:i=k) (h:k≤c) (w:World):(Instr.sliceBounds true n c none (some (.int kd i)) none).run P w= .ok (0,k,c) w:=by
 simp [Instr.sliceBounds,Sem.run_bind,Result.andThen,og k c _ hi h]
theorem QS {i j:Int} (l k:Nat) (hi:i=l) (hj:j=k) (hlk:l≤k) (h:k≤c) (w:World):(Instr.sliceBounds true n c (some (.int kd i)) (some (.int ke j)) none).run P w= .ok (l,k,c) w:=by
 simp [Instr.sliceBounds,Sem.run_bind,Result.andThen,og k c _ hj h,og l k _ hi hlk]
theorem af3 {j m:Int} (k q:Nat) (hj:j=k) (hm:m=q) (hkq:k≤q) (h:q≤c) (w:World):(Instr.sliceBounds true n c none (some (.int ke j)) (some (.int kf m))).run P w= .ok (0,k,q) w:=by
 simp [Instr.sliceBounds,Sem.run_bind,Result.andThen,og q c _ hm h,og k q _ hj hkq]
theorem Za {i j m:Int} (l k q:Nat) (hi:i=l) (hj:j=k) (hm:m=q) (hlk:l≤k) (hkq:k≤q) (h:q≤c) (w:World):(Instr.sliceBounds true n c (some (.int kd i)) (some (.int ke j)) (some (.int kf m))).run P w= .ok (l,k,q) w:=by
 simp [Instr.sliceBounds,Sem.run_bind,Result.andThen,og q c _ hm h,og k q _ hj hkq,og l k _ hi hlk]
theorem add_block (a:Addr) (k:Nat):a.block=(a.add k).block:=by
 unfold Addr.add
 split<;>rfl
theorem yP {lo hi mx:Option Value} {l k q:Nat} (hu:P.underlying t=some (.slice e)) (hz:(P.info? e).map (·.size)=some s) (hb: ∀ w,(Instr.sliceBounds true n c lo hi mx).run P w= .ok (l,k,q) w) (hlk:l≤k) (hkn:k≤n) (hkq:k≤q):
  ∃ A',(∀ w,(Instr.sliceAt t (.slice A n c) lo hi mx).run P w= .ok (.slice A' (k-l) (q-l)) w)∧(∀ (w:World) (B:Nat) (xs:List Value),Rd w B s A n xs→Rd w B s A' (k-l) ((xs.drop (l*s)).take ((k-l)*s)))∧ ∀ a',A'=some a'→ ∃ a,A=some a∧a.block=a'.block:=by
 obtain ⟨z,hq,hs⟩: ∃ z,P.info? e=some z∧z.size=s:=by
  cases h:P.info? e with
  | none=>simp [h] at hz
  | some z=>exact ⟨z,rfl,by simpa [h] using hz⟩
 refine ⟨if q=l then A else A.map (·.add (l*s)),fun w=>?_,?_,?_⟩
 ·have h1:(sizeOf e).run P w= .ok s w:=by simp [sizeOf,typeInfo,hq,hs,Sem.run_bind,Result.andThen]
  simp [Instr.sliceAt,Instr.slice,run_underlying hu,Sem.run_bind,Result.andThen,hb,h1]
 ·intro w B xs hR;refine ⟨?_,fun hn=>?_⟩
  ·rw [List.length_take,List.length_drop,hR.1,←Nat.sub_mul];exact Nat.min_eq_left (Nat.mul_le_mul_right _ (by omega))
  obtain ⟨b,off,rfl,hb,hcell⟩:=hR.2 (by omega);rw [if_neg (by omega)];refine ⟨b,off+l*s,?_,hb,fun j u hu=>?_⟩
  ·simp only [Option.map_some,Option.some.injEq];rw [Go.WideShapes.add_plain]
  rw [Nat.add_assoc];refine hcell _ u ?_;have hj:j< (k-l)*s:=by
   have:=(List.getElem?_eq_some_iff.1 hu).1;rw [List.length_take] at this;omega
  rw [List.getElem?_take_of_lt hj,List.getElem?_drop] at hu;exact hu
 intro a' h
 split at h
 ·exact ⟨a',h,rfl⟩
 cases A with
 | none=>cases h
 | some a=>cases h;exact ⟨a,rfl,add_block a _⟩
theorem VF {lo hi mx:Option Value} {l k q:Nat} (hu:P.underlying t=some (.slice e)) (hz:(P.info? e).map (·.size)=some s) (hb: ∀ w,(Instr.sliceBounds true n c lo hi mx).run P w= .ok (l,k,q) w) (hR:Rd w B s A n xs) (hlk:l≤k) (hkn:k≤n) (hkq:k≤q):
  ∃ A',(∀ w,(Instr.sliceAt t (.slice A n c) lo hi mx).run P w= .ok (.slice A' (k-l) (q-l)) w)∧Rd w B s A' (k-l) ((xs.drop (l*s)).take ((k-l)*s))∧ ∀ a',A'=some a'→ ∃ a,A=some a∧a.block=a'.block:=by
 obtain ⟨A',h1,h2,h3⟩:=yP (A:=A) hu hz hb hlk hkn hkq;exact ⟨A',h1,h2 _ _ _ hR,h3⟩
theorem aaC {lo hi mx:Option Value} {l k q:Nat} (hu:P.underlying t=some (.slice e)) (hz:(P.info? e).map (·.size)=some s) (hb: ∀ w,(Instr.sliceBounds true n c lo hi mx).run P w= .ok (l,k,q) w) (hR:Rd w B s A n xs) (hlk:l≤k) (hkn:k≤n) (hkq:k≤q):
  ∃ A',(∀ w,(Instr.sliceAt t (.slice A n c) lo hi mx).run P w= .ok (.slice A' (k-l) (q-l)) w)∧Rd w B s A' (k-l) ((xs.drop (l*s)).take ((k-l)*s)):=by
 obtain ⟨A',h1,h2,_⟩:=VF hu hz hb hR hlk hkn hkq;exact ⟨A',h1,h2⟩
theorem af4 {x y:Int} {ts:Array TypeId} {ty:TypeId} {cs:Array Bool}:(builtin .min ts ty cs #[.int kd x,.int kd y]).run P w= .ok (.value (.int kd (min x y))) w:=by
 have:(if y<x then y else x)=min x y:=by split<;>omega
 simp [builtin,run_min_int2,Sem.run_bind,Result.andThen,this]
theorem Qj {x y:Nat} {ts:Array TypeId} {ty:TypeId} {cs:Array Bool}:(builtin .min ts ty cs #[.int kd x,.int kd y]).run P w= .ok (.value (.int kd ((min x y:Nat):Int))) w:=by
 rw [af4,show min (x:Int) (y:Int)=((min x y:Nat):Int) by omega]
theorem yB {op:BinOp} {xo yo:Operand} {a b:Array Value} {v:Value} (hg:P.eqGuardType P.depth t=false) (h:(binOp op t (.agg a) (.agg b)).run P w= .ok v w):(do eqGuard op t xo yo (.agg a) (.agg b);binOp op t (.agg a) (.agg b):Sem Value).run P w= .ok v w:=by
 have h1:(eqGuard op t xo yo (.agg a) (.agg b)).run P w= .ok () w:=by
  have hp: ∀ w,(program:Sem Program).run P w= .ok P w:=fun _=>rfl
  unfold eqGuard
  cases op<;>first | rfl | simp [hp,Sem.run_bind,Result.andThen,hg]
 rw [Sem.run_bind,h1];exact h
theorem VG {s t:TypeId} {k:IntKind} {x:Int} (hs:(P.underlying s).isSome=true) (ht:P.underlying t=some (.int k)) {z:Int} (hz:k.wrap x=z):(convert s t (.int kd x)).run P w= .ok (.int k z) w:=by
 obtain ⟨ds,hs⟩:=Option.isSome_iff_exists.1 hs;subst hz;simp [convert,Sem.run_bind,run_underlying hs,run_underlying ht,Result.andThen,Conv.intToInt]
theorem u8_in (a:UInt8):0≤(a.toNat:Int)∧(a.toNat:Int)≤255:=by
 have:=a.toNat_lt;omega
theorem KV {s t:TypeId} {a:UInt8} (hs:P.underlying s=some (.int .u8)) (ht:P.underlying t=some (.int .i64)):(convert s t (.int .u8 (a.toNat:Int))).run P w= .ok (.int .i64 (a.toNat:Int)) w:=
 VG (by rw [hs];rfl) ht (wrap64_in (by have:=u8_in a;omega) (by have:=u8_in a;omega))
theorem Zb {xo yo:Operand} {x z:Int} (hz:x*256=z) (h0:0≤x) (h1:x≤1099511627776):(do eqGuard .shl t xo yo (.int .i64 x) (.int .u64 8);binOp .shl t (.int .i64 x) (.int .u64 8):Sem Value).run P w= .ok (.int .i64 z) w:=by
 subst hz;have:IntKind.i64.wrap (x*256)=x*256:=wrap64_in (by omega) (by omega);simp [binOp,eqGuard_shl,shift_shl_i64,this]
theorem aoI {xo yo:Operand} {v x z:Int} (hz:v*256+x=z) (h0:0≤v) (h1:v≤1099511627776) (h2:0≤x) (h3:x≤255):(do eqGuard .or t xo yo (.int .i64 (v*256)) (.int .i64 x);binOp .or t (.int .i64 (v*256)) (.int .i64 x):Sem Value).run P w= .ok (.int .i64 z) w:=by
 subst hz;have:=or8 v x h0 h1 h2 h3;simp [binOp,eqGuard_or,intBits_or,this]
theorem JF {b:List UInt8} {lo hi mx:Option Value} {l k q m c':Nat} (hu:P.underlying t=some (.slice e)) (hz:(P.info? e).map (·.size)=some 1) (hb: ∀ w,(Instr.sliceBounds true b.length c lo hi mx).run P w= .ok (l,k,q) w) (hR:Rd w B 1 A b.length (byteCells b))
  (hlk:l≤k) (hkn:k≤b.length) (hkq:k≤q) (hm:k-l=m) (hc:q-l=c'): ∃ A',(∀ w,(Instr.sliceAt t (.slice A b.length c) lo hi mx).run P w= .ok (.slice A' m c') w)∧Rd w B 1 A' m (byteCells ((b.drop l).take m)):=by
 subst hm;subst hc;obtain ⟨A',h1,h2⟩:=aaC hu hz hb hR hlk hkn hkq;refine ⟨A',h1,?_⟩;rw [Nat.mul_one,Nat.mul_one] at h2;simpa [byteCells,List.map_drop,List.map_take] using h2
theorem adM {b:List UInt8} {lo hi mx:Option Value} {l k q m c':Nat} (hu:P.underlying t=some (.slice e)) (hz:(P.info? e).map (·.size)=some 1) (hb: ∀ w,(Instr.sliceBounds true b.length c lo hi mx).run P w= .ok (l,k,q) w)
  (hlk:l≤k) (hkn:k≤b.length) (hkq:k≤q) (hm:k-l=m) (hc:q-l=c'): ∃ A',(∀ w,(Instr.sliceAt t (.slice A b.length c) lo hi mx).run P w= .ok (.slice A' m c') w)∧(∀ (w:World) (B:Nat),Rd w B 1 A b.length (byteCells b)→Rd w B 1 A' m (byteCells ((b.drop l).take m)))∧ ∀ a',A'=some a'→ ∃ a,A=some a∧a.block=a'.block:=by
 subst hm;subst hc;obtain ⟨A',h1,h2,h3⟩:=yP (A:=A) hu hz hb hlk hkn hkq;refine ⟨A',h1,fun w B hR=>?_,h3⟩
 replace h2:=h2 w B _ hR
 rw [Nat.mul_one,Nat.mul_one] at h2;simpa [byteCells,List.map_drop,List.map_take] using h2
end
end Go.Proofs.YtbffmhpkenoogaaGreatDoor
namespace Go.Proofs.YtbffmhpkenoogaaGreatDoor
open Go.ChangeShapes Go.WideShapes Go.RowKit
abbrev fA (s f k:Nat):Prop:= ∀ (b o:Nat) (w:World),(Instr.fieldAt s (.pointer (some ⟨b,o,none⟩)) f).run Tryz.prog w= .ok (.pointer (some ⟨b,o+k,none⟩)) w
theorem fM:(Tryz.prog.info? 3).map (·.size)=some 1:=by kernel_rfl
theorem EM:(Tryz.prog.info? 4).map (·.size)=some 1:=by kernel_rfl
theorem QT:(Tryz.prog.info? 5).map (·.size)=some 1:=by kernel_rfl
theorem aoJ:(Tryz.prog.info? 22).map (·.size)=some 1:=by kernel_rfl
theorem aoK:(Tryz.prog.info? 23).map (·.size)=some 1:=by kernel_rfl
theorem aoL:(Tryz.prog.info? 26).map (·.size)=some 1:=by kernel_rfl
theorem aoM:(Tryz.prog.info? 27).map (·.size)=some 1:=by kernel_rfl
theorem aoN:(Tryz.prog.info? 29).map (·.size)=some 2:=by kernel_rfl
theorem ai5:fA 29 0 0:=fun _ _ _=>by kernel_rfl
theorem ai6:fA 29 1 1:=fun _ _ _=>by kernel_rfl
theorem iJ:(Tryz.prog.info? 30).map (·.size)=some 2:=by kernel_rfl
theorem ai7:fA 30 0 0:=fun _ _ _=>by kernel_rfl
theorem ai8:fA 30 1 1:=fun _ _ _=>by kernel_rfl
theorem nS:(Tryz.prog.info? 33).map (·.size)=some 8:=by kernel_rfl
theorem Yy:(Tryz.prog.info? 34).map (·.size)=some 1:=by kernel_rfl
theorem af5:(Tryz.prog.info? 35).map (·.size)=some 1:=by kernel_rfl
theorem af6:(Tryz.prog.info? 36).map (·.size)=some 1:=by kernel_rfl
theorem aoO:(Tryz.prog.info? 37).map (·.size)=some 18:=by kernel_rfl
theorem ai9:fA 37 0 0:=fun _ _ _=>by kernel_rfl
theorem aja:fA 37 1 1:=fun _ _ _=>by kernel_rfl
theorem ajb:fA 37 2 6:=fun _ _ _=>by kernel_rfl
theorem ajc:fA 37 3 14:=fun _ _ _=>by kernel_rfl
theorem ajd:fA 37 4 15:=fun _ _ _=>by kernel_rfl
theorem Cr:(Tryz.prog.info? 38).map (·.size)=some 18:=by kernel_rfl
theorem aje:fA 38 0 0:=fun _ _ _=>by kernel_rfl
theorem ajf:fA 38 1 1:=fun _ _ _=>by kernel_rfl
theorem ajg:fA 38 2 6:=fun _ _ _=>by kernel_rfl
theorem ajh:fA 38 3 14:=fun _ _ _=>by kernel_rfl
theorem aji:fA 38 4 15:=fun _ _ _=>by kernel_rfl
theorem ajj:fA 38 5 16:=fun _ _ _=>by kernel_rfl
theorem ajk:fA 38 6 17:=fun _ _ _=>by kernel_rfl
theorem aoP:(Tryz.prog.info? 39).map (·.size)=some 1:=by kernel_rfl
theorem qV:(Tryz.prog.info? 40).map (·.size)=some 1:=by kernel_rfl
theorem aC:(Tryz.prog.info? 42).map (·.size)=some 6:=by kernel_rfl
theorem ajl:(Tryz.prog.info? 42).map (fun i=>(i.zero,i.size,i.bytes))=some (some (.agg #[.int .i64 0,.int .i64 0,.int .i64 0,.int .i64 0,.int .i64 0,.slice none 0 0]),6,64):=by kernel_rfl
theorem Zc:fA 42 0 0:=fun _ _ _=>by kernel_rfl
theorem ajm:fA 42 1 1:=fun _ _ _=>by kernel_rfl
theorem ajn:fA 42 2 2:=fun _ _ _=>by kernel_rfl
theorem ajo:fA 42 3 3:=fun _ _ _=>by kernel_rfl
theorem ajp:fA 42 4 4:=fun _ _ _=>by kernel_rfl
theorem Zd:fA 42 5 5:=fun _ _ _=>by kernel_rfl
theorem Yz:(Tryz.prog.info? 43).map (·.size)=some 1:=by kernel_rfl
theorem Ze:(Tryz.prog.info? 43).map (fun i=>(i.zero,i.size,i.bytes))=some (some (.slice none 0 0),1,24):=by kernel_rfl
theorem LM:(Tryz.prog.info? 50).map (·.size)=some 1:=by kernel_rfl
theorem LP:(Tryz.prog.info? 51).map (·.size)=some 1:=by kernel_rfl
theorem Ct:(Tryz.prog.info? 54).map (·.size)=some 9:=by kernel_rfl
theorem af7:(Tryz.prog.info? 55).map (·.size)=some 36:=by kernel_rfl
theorem jy:(Tryz.prog.info? 57).map (·.size)=some 41:=by kernel_rfl
theorem ajq:fA 57 0 0:=fun _ _ _=>by kernel_rfl
theorem ajr:fA 57 1 1:=fun _ _ _=>by kernel_rfl
theorem ajs:fA 57 2 2:=fun _ _ _=>by kernel_rfl
theorem ajt:fA 57 3 3:=fun _ _ _=>by kernel_rfl
theorem aju:fA 57 4 4:=fun _ _ _=>by kernel_rfl
theorem ajv:fA 57 5 5:=fun _ _ _=>by kernel_rfl
theorem LQ:(Tryz.prog.info? 73).map (·.size)=some 2:=by kernel_rfl
theorem ajw:fA 73 0 0:=fun _ _ _=>by kernel_rfl
theorem ajx:fA 73 1 1:=fun _ _ _=>by kernel_rfl
theorem jT:(Tryz.prog.info? 75).map (·.size)=some 6:=by kernel_rfl
theorem lN:(Tryz.prog.info? 75).map (fun i=>(i.zero,i.size,i.bytes))=some (some (.agg #[.int .i64 0,.int .i64 0,.int .i64 0,.int .i64 0,.int .i64 0,.int .i64 0]),6,48):=by kernel_rfl
theorem ajy:fA 75 0 0:=fun _ _ _=>by kernel_rfl
theorem ajz:fA 75 1 1:=fun _ _ _=>by kernel_rfl
theorem ajA:fA 75 2 2:=fun _ _ _=>by kernel_rfl
theorem ajB:fA 75 3 3:=fun _ _ _=>by kernel_rfl
theorem ajC:fA 75 4 4:=fun _ _ _=>by kernel_rfl
theorem jA:(Tryz.prog.info? 77).map (·.size)=some 11:=by kernel_rfl
theorem ajD:(Tryz.prog.info? 77).map (fun i=>(i.zero,i.size,i.bytes))=some (some (.agg #[.int .i64 0,.int .i64 0,.int .i64 0,.int .i64 0,.int .i64 0,.int .i64 0,.int .i64 0,.int .i64 0,.int .i64 0,.int .i64 0,.int .i64 0]),11,88):=by kernel_rfl
theorem ajE:fA 77 0 0:=fun _ _ _=>by kernel_rfl
theorem ajF:fA 77 1 1:=fun _ _ _=>by kernel_rfl
theorem ajG:fA 77 2 2:=fun _ _ _=>by kernel_rfl
theorem ajH:fA 77 3 3:=fun _ _ _=>by kernel_rfl
theorem ajI:fA 77 4 4:=fun _ _ _=>by kernel_rfl
theorem ajJ:fA 77 5 5:=fun _ _ _=>by kernel_rfl
theorem dh:(Tryz.prog.info? 79).map (·.size)=some 4:=by kernel_rfl
theorem ajK:(Tryz.prog.info? 79).map (fun i=>(i.zero,i.size,i.bytes))=some (some (.agg #[.int .i64 0,.int .i64 0,.int .i64 0,.int .i64 0]),4,32):=by kernel_rfl
theorem aoQ:(Tryz.prog.info? 80).map (·.size)=some 7:=by kernel_rfl
theorem ajL:fA 80 0 0:=fun _ _ _=>by kernel_rfl
theorem ajM:fA 80 1 1:=fun _ _ _=>by kernel_rfl
theorem YA:(Tryz.prog.info? 81).map (·.size)=some 7:=by kernel_rfl
theorem ajN:(Tryz.prog.info? 81).map (fun i=>(i.zero,i.size,i.bytes))=some (some (.agg #[.int .i64 0,.int .i64 0,.int .i64 0,.int .i64 0,.int .i64 0,.int .i64 0,.int .i64 0]),7,56):=by kernel_rfl
theorem ajO:fA 81 2 5:=fun _ _ _=>by kernel_rfl
theorem ajP:(Tryz.prog.info? 85).map (fun i=>(i.zero,i.size,i.bytes))=some (some (.agg #[.int .i64 0,.int .i64 0,.int .i64 0,.int .i64 0,.int .i64 0,.int .i64 0,.int .i64 0,.int .i64 0,.int .i64 0,.int .i64 0,.int .i64 0,.int .i64 0,.int .i64 0,.int .i64 0]),14,112):=by kernel_rfl
theorem Cu:(Tryz.prog.info? 88).map (·.size)=some 2:=by kernel_rfl
theorem Qk:(Tryz.prog.info? 88).map (fun i=>(i.zero,i.size,i.bytes))=some (some (.agg #[.int .i64 0,.int .i64 0]),2,16):=by kernel_rfl
theorem ajQ:fA 88 0 0:=fun _ _ _=>by kernel_rfl
theorem ajR:fA 88 1 1:=fun _ _ _=>by kernel_rfl
theorem EB:(Tryz.prog.info? 90).map (·.size)=some 4:=by kernel_rfl
theorem Zf:(Tryz.prog.info? 90).map (fun i=>(i.zero,i.size,i.bytes))=some (some (.agg #[.int .i64 0,.int .i64 0,.int .i64 0,.int .i64 0]),4,32):=by kernel_rfl
theorem ajS:fA 90 0 0:=fun _ _ _=>by kernel_rfl
theorem ajT:fA 90 1 2:=fun _ _ _=>by kernel_rfl
theorem aoR:(Tryz.prog.info? 93).map (·.size)=some 2:=by kernel_rfl
theorem ajU:(Tryz.prog.info? 108).map (·.size)=some 5:=by kernel_rfl
theorem adN:fA 108 0 0:=fun _ _ _=>by kernel_rfl
theorem adO:fA 108 1 1:=fun _ _ _=>by kernel_rfl
theorem adP:fA 108 2 2:=fun _ _ _=>by kernel_rfl
theorem adQ:fA 108 3 3:=fun _ _ _=>by kernel_rfl
theorem adR:fA 108 4 4:=fun _ _ _=>by kernel_rfl
theorem Cv:(Tryz.prog.info? 114).map (·.size)=some 1:=by kernel_rfl
theorem zG:(Tryz.prog.info? 115).map (·.size)=some 1:=by kernel_rfl
theorem xD:(Tryz.prog.info? 117).map (·.size)=some 2:=by kernel_rfl
theorem adS:fA 117 0 0:=fun _ _ _=>by kernel_rfl
theorem adT:fA 117 1 1:=fun _ _ _=>by kernel_rfl
theorem JG:(Tryz.prog.info? 118).map (·.size)=some 8:=by kernel_rfl
theorem adU:fA 121 0 0:=fun _ _ _=>by kernel_rfl
theorem adV:fA 121 1 1:=fun _ _ _=>by kernel_rfl
theorem adW:fA 121 2 9:=fun _ _ _=>by kernel_rfl
theorem adX:fA 121 3 10:=fun _ _ _=>by kernel_rfl
theorem adY:fA 121 4 50:=fun _ _ _=>by kernel_rfl
theorem Zg:(Tryz.prog.info? 122).map (·.size)=some 1:=by kernel_rfl
theorem Bd:(Tryz.prog.info? 122).map (fun i=>(i.zero,i.size,i.bytes))=some (some (.pointer none),1,8):=by kernel_rfl
theorem dX:(Tryz.prog.info? 125).map (·.size)=some 2:=by kernel_rfl
theorem Ui:fA 125 0 0:=fun _ _ _=>by kernel_rfl
theorem adZ:fA 125 1 1:=fun _ _ _=>by kernel_rfl
theorem Zh:(Tryz.prog.info? 126).map (·.size)=some 4:=by kernel_rfl
theorem oC:(Tryz.prog.info? 127).map (·.size)=some 1:=by kernel_rfl
theorem Zi:(Tryz.prog.info? 129).map (·.size)=some 20:=by kernel_rfl
theorem ad1:fA 129 0 0:=fun _ _ _=>by kernel_rfl
theorem ad2:fA 129 1 1:=fun _ _ _=>by kernel_rfl
theorem ad3:fA 129 2 2:=fun _ _ _=>by kernel_rfl
theorem ad4:fA 129 3 4:=fun _ _ _=>by kernel_rfl
theorem ad5:fA 129 4 5:=fun _ _ _=>by kernel_rfl
theorem ad6:fA 129 5 13:=fun _ _ _=>by kernel_rfl
theorem ad7:fA 129 6 17:=fun _ _ _=>by kernel_rfl
theorem ad8:fA 129 7 18:=fun _ _ _=>by kernel_rfl
theorem ad9:fA 129 8 19:=fun _ _ _=>by kernel_rfl
theorem Zj:(Tryz.prog.info? 135).map (·.size)=some 1:=by kernel_rfl
theorem ajV:(Tryz.prog.info? 137).map (·.size)=some 42:=by kernel_rfl
theorem aea:fA 137 0 0:=fun _ _ _=>by kernel_rfl
theorem aeb:fA 137 1 41:=fun _ _ _=>by kernel_rfl
theorem ajW:(Tryz.prog.info? 141).map (·.size)=some 41:=by kernel_rfl
theorem aec:fA 141 0 0:=fun _ _ _=>by kernel_rfl
theorem aed:fA 142 0 0:=fun _ _ _=>by kernel_rfl
theorem ajX:(Tryz.prog.info? 162).map (·.size)=some 1:=by kernel_rfl
theorem rM:(Tryz.prog.info? 164).map (·.size)=some 2:=by kernel_rfl
theorem aee:fA 164 0 0:=fun _ _ _=>by kernel_rfl
theorem aef:fA 164 1 1:=fun _ _ _=>by kernel_rfl
theorem vD:(Tryz.prog.info? 169).map (·.size)=some 23:=by kernel_rfl
theorem Uj:(Tryz.prog.info? 169).map (fun i=>(i.zero,i.size,i.bytes))=some (some (.agg #[.int .i64 0,.int .i64 0,.int .i64 0,.int .i64 0,.int .i64 0,.int .i64 0,.int .i64 0,.int .i64 0,.int .i64 0,.int .i64 0,.int .i64 0,.int .i64 0,.int .i64 0,.slice none 0 0,.bool false,.int .i64 0,.int .i64 0,.int .i64 0,.int .i64 0,.int .i64 0,.int .i64 0,.int .i64 0,.int .i64 0]),23,200):=by kernel_rfl
theorem aeg:fA 169 0 0:=fun _ _ _=>by kernel_rfl
theorem aeh:fA 169 1 1:=fun _ _ _=>by kernel_rfl
theorem aei:fA 169 2 2:=fun _ _ _=>by kernel_rfl
theorem aej:fA 169 3 3:=fun _ _ _=>by kernel_rfl
theorem aek:fA 169 4 4:=fun _ _ _=>by kernel_rfl
theorem ael:fA 169 5 5:=fun _ _ _=>by kernel_rfl
theorem aem:fA 169 6 6:=fun _ _ _=>by kernel_rfl
theorem aen:fA 169 7 7:=fun _ _ _=>by kernel_rfl
theorem aeo:fA 169 8 13:=fun _ _ _=>by kernel_rfl
theorem aer:fA 169 9 14:=fun _ _ _=>by kernel_rfl
theorem aaD:fA 169 10 15:=fun _ _ _=>by kernel_rfl
theorem aaE:fA 169 11 16:=fun _ _ _=>by kernel_rfl
theorem jG:(Tryz.prog.info? 205).map (·.size)=some 10:=by kernel_rfl
theorem KW:(Tryz.prog.info? 205).map (fun i=>(i.zero,i.size,i.bytes))=some (some (.agg #[.int .i64 0,.int .i64 0,.int .i64 0,.int .i64 0,.int .i64 0,.int .i64 0,.int .i64 0,.int .i64 0,.int .i64 0,.int .i64 0]),10,80):=by kernel_rfl
theorem aes:fA 205 0 0:=fun _ _ _=>by kernel_rfl
theorem aeu:fA 205 1 1:=fun _ _ _=>by kernel_rfl
theorem aew:fA 205 2 2:=fun _ _ _=>by kernel_rfl
theorem aex:fA 205 3 3:=fun _ _ _=>by kernel_rfl
theorem aey:fA 205 4 4:=fun _ _ _=>by kernel_rfl
theorem Zk:(Tryz.prog.info? 258).map (·.size)=some 1:=by kernel_rfl
theorem asn (args:Array Value) (w:World):(callFunc 30 args).run Tryz.prog w= .ok (.enter 30 args) w:=ay Tryz.func30 (by kernel_rfl) rfl args w
theorem alD (args:Array Value) (w:World):(callFunc 31 args).run Tryz.prog w= .ok (.enter 31 args) w:=ay Tryz.func31 (by kernel_rfl) rfl args w
theorem alE (args:Array Value) (w:World):(callFunc 32 args).run Tryz.prog w= .ok (.enter 32 args) w:=ay Tryz.func32 (by kernel_rfl) rfl args w
theorem ahe (args:Array Value) (w:World):(callFunc 33 args).run Tryz.prog w= .ok (.enter 33 args) w:=ay Tryz.func33 (by kernel_rfl) rfl args w
theorem alF (args:Array Value) (w:World):(callFunc 35 args).run Tryz.prog w= .ok (.enter 35 args) w:=ay Tryz.func35 (by kernel_rfl) rfl args w
theorem QU (args:Array Value) (w:World):(callFunc 39 args).run Tryz.prog w= .ok (.enter 39 args) w:=ay Tryz.func39 (by kernel_rfl) rfl args w
theorem aso (args:Array Value) (w:World):(callFunc 45 args).run Tryz.prog w= .ok (.enter 45 args) w:=ay Tryz.func45 (by kernel_rfl) rfl args w
theorem asq (args:Array Value) (w:World):(callFunc 46 args).run Tryz.prog w= .ok (.enter 46 args) w:=ay Tryz.func46 (by kernel_rfl) rfl args w
theorem asr (args:Array Value) (w:World):(callFunc 47 args).run Tryz.prog w= .ok (.enter 47 args) w:=ay Tryz.func47 (by kernel_rfl) rfl args w
theorem alG (args:Array Value) (w:World):(callFunc 48 args).run Tryz.prog w= .ok (.enter 48 args) w:=ay Tryz.func48 (by kernel_rfl) rfl args w
theorem asu (args:Array Value) (w:World):(callFunc 49 args).run Tryz.prog w= .ok (.enter 49 args) w:=ay Tryz.func49 (by kernel_rfl) rfl args w
theorem ab1 (args:Array Value) (w:World):(callFunc 50 args).run Tryz.prog w= .ok (.enter 50 args) w:=ay Tryz.func50 (by kernel_rfl) rfl args w
theorem asv (args:Array Value) (w:World):(callFunc 52 args).run Tryz.prog w= .ok (.enter 52 args) w:=ay Tryz.func52 (by kernel_rfl) rfl args w
theorem alH (args:Array Value) (w:World):(callFunc 53 args).run Tryz.prog w= .ok (.enter 53 args) w:=ay Tryz.func53 (by kernel_rfl) rfl args w
theorem asw (args:Array Value) (w:World):(callFunc 54 args).run Tryz.prog w= .ok (.enter 54 args) w:=ay Tryz.func54 (by kernel_rfl) rfl args w
theorem asx (args:Array Value) (w:World):(callFunc 55 args).run Tryz.prog w= .ok (.enter 55 args) w:=ay Tryz.func55 (by kernel_rfl) rfl args w
theorem asy (args:Array Value) (w:World):(callFunc 56 args).run Tryz.prog w= .ok (.enter 56 args) w:=ay Tryz.func56 (by kernel_rfl) rfl args w
theorem asz (args:Array Value) (w:World):(callFunc 57 args).run Tryz.prog w= .ok (.enter 57 args) w:=ay Tryz.func57 (by kernel_rfl) rfl args w
theorem asA (args:Array Value) (w:World):(callFunc 58 args).run Tryz.prog w= .ok (.enter 58 args) w:=ay Tryz.func58 (by kernel_rfl) rfl args w
theorem asB (args:Array Value) (w:World):(callFunc 59 args).run Tryz.prog w= .ok (.enter 59 args) w:=ay Tryz.func59 (by kernel_rfl) rfl args w
theorem alI (args:Array Value) (w:World):(callFunc 65 args).run Tryz.prog w= .ok (.enter 65 args) w:=ay Tryz.func65 (by kernel_rfl) rfl args w
theorem asC (args:Array Value) (w:World):(callFunc 66 args).run Tryz.prog w= .ok (.enter 66 args) w:=ay Tryz.func66 (by kernel_rfl) rfl args w
theorem MS (args:Array Value) (w:World):(callFunc 67 args).run Tryz.prog w= .ok (.enter 67 args) w:=ay Tryz.func67 (by kernel_rfl) rfl args w
theorem asD (args:Array Value) (w:World):(callFunc 68 args).run Tryz.prog w= .ok (.enter 68 args) w:=ay Tryz.func68 (by kernel_rfl) rfl args w
theorem wm (args:Array Value) (w:World):(callFunc 69 args).run Tryz.prog w= .ok (.enter 69 args) w:=ay Tryz.func69 (by kernel_rfl) rfl args w
theorem asE (args:Array Value) (w:World):(callFunc 70 args).run Tryz.prog w= .ok (.enter 70 args) w:=ay Tryz.func70 (by kernel_rfl) rfl args w
theorem ahf (args:Array Value) (w:World):(callFunc 71 args).run Tryz.prog w= .ok (.enter 71 args) w:=ay Tryz.func71 (by kernel_rfl) rfl args w
theorem ahg (args:Array Value) (w:World):(callFunc 72 args).run Tryz.prog w= .ok (.enter 72 args) w:=ay Tryz.func72 (by kernel_rfl) rfl args w
theorem asF (args:Array Value) (w:World):(callFunc 73 args).run Tryz.prog w= .ok (.enter 73 args) w:=ay Tryz.func73 (by kernel_rfl) rfl args w
theorem asG (args:Array Value) (w:World):(callFunc 74 args).run Tryz.prog w= .ok (.enter 74 args) w:=ay Tryz.func74 (by kernel_rfl) rfl args w
theorem asH (args:Array Value) (w:World):(callFunc 75 args).run Tryz.prog w= .ok (.enter 75 args) w:=ay Tryz.func75 (by kernel_rfl) rfl args w
theorem asI (args:Array Value) (w:World):(callFunc 76 args).run Tryz.prog w= .ok (.enter 76 args) w:=ay Tryz.func76 (by kernel_rfl) rfl args w
theorem ahh (args:Array Value) (w:World):(callFunc 77 args).run Tryz.prog w= .ok (.enter 77 args) w:=ay Tryz.func77 (by kernel_rfl) rfl args w
theorem asJ (args:Array Value) (w:World):(callFunc 78 args).run Tryz.prog w= .ok (.enter 78 args) w:=ay Tryz.func78 (by kernel_rfl) rfl args w
theorem gU (args:Array Value) (w:World):(callFunc 79 args).run Tryz.prog w= .ok (.enter 79 args) w:=ay Tryz.func79 (by kernel_rfl) rfl args w
theorem asK (args:Array Value) (w:World):(callFunc 80 args).run Tryz.prog w= .ok (.enter 80 args) w:=ay Tryz.func80 (by kernel_rfl) rfl args w
theorem alJ (args:Array Value) (w:World):(callFunc 81 args).run Tryz.prog w= .ok (.enter 81 args) w:=ay Tryz.func81 (by kernel_rfl) rfl args w
theorem alK (args:Array Value) (w:World):(callFunc 82 args).run Tryz.prog w= .ok (.enter 82 args) w:=ay Tryz.func82 (by kernel_rfl) rfl args w
theorem alL (args:Array Value) (w:World):(callFunc 83 args).run Tryz.prog w= .ok (.enter 83 args) w:=ay Tryz.func83 (by kernel_rfl) rfl args w
theorem asL (args:Array Value) (w:World):(callFunc 84 args).run Tryz.prog w= .ok (.enter 84 args) w:=ay Tryz.func84 (by kernel_rfl) rfl args w
theorem alM (args:Array Value) (w:World):(callFunc 85 args).run Tryz.prog w= .ok (.enter 85 args) w:=ay Tryz.func85 (by kernel_rfl) rfl args w
theorem alN (args:Array Value) (w:World):(callFunc 87 args).run Tryz.prog w= .ok (.enter 87 args) w:=ay Tryz.func87 (by kernel_rfl) rfl args w
theorem alO (args:Array Value) (w:World):(callFunc 88 args).run Tryz.prog w= .ok (.enter 88 args) w:=ay Tryz.func88 (by kernel_rfl) rfl args w
theorem alP (args:Array Value) (w:World):(callFunc 89 args).run Tryz.prog w= .ok (.enter 89 args) w:=ay Tryz.func89 (by kernel_rfl) rfl args w
theorem asM (args:Array Value) (w:World):(callFunc 90 args).run Tryz.prog w= .ok (.enter 90 args) w:=ay Tryz.func90 (by kernel_rfl) rfl args w
theorem asN (args:Array Value) (w:World):(callFunc 91 args).run Tryz.prog w= .ok (.enter 91 args) w:=ay Tryz.func91 (by kernel_rfl) rfl args w
theorem asO (args:Array Value) (w:World):(callFunc 92 args).run Tryz.prog w= .ok (.enter 92 args) w:=ay Tryz.func92 (by kernel_rfl) rfl args w
theorem alQ (args:Array Value) (w:World):(callFunc 94 args).run Tryz.prog w= .ok (.enter 94 args) w:=ay Tryz.func94 (by kernel_rfl) rfl args w
theorem alR (args:Array Value) (w:World):(callFunc 95 args).run Tryz.prog w= .ok (.enter 95 args) w:=ay Tryz.func95 (by kernel_rfl) rfl args w
theorem Dk (args:Array Value) (w:World):(callFunc 96 args).run Tryz.prog w= .ok (.enter 96 args) w:=ay Tryz.func96 (by kernel_rfl) rfl args w
theorem EN (args:Array Value) (w:World):(callFunc 97 args).run Tryz.prog w= .ok (.enter 97 args) w:=ay Tryz.func97 (by kernel_rfl) rfl args w
theorem MU (args:Array Value) (w:World):(callFunc 98 args).run Tryz.prog w= .ok (.enter 98 args) w:=ay Tryz.func98 (by kernel_rfl) rfl args w
theorem VH (args:Array Value) (w:World):(callFunc 99 args).run Tryz.prog w= .ok (.enter 99 args) w:=ay Tryz.func99 (by kernel_rfl) rfl args w
theorem aoS (args:Array Value) (w:World):(callFunc 100 args).run Tryz.prog w= .ok (.enter 100 args) w:=ay Tryz.func100 (by kernel_rfl) rfl args w
theorem aoT (args:Array Value) (w:World):(callFunc 101 args).run Tryz.prog w= .ok (.enter 101 args) w:=ay Tryz.func101 (by kernel_rfl) rfl args w
theorem af8 (args:Array Value) (w:World):(callFunc 102 args).run Tryz.prog w= .ok (.enter 102 args) w:=ay Tryz.func102 (by kernel_rfl) rfl args w
theorem wY (args:Array Value) (w:World):(callFunc 103 args).run Tryz.prog w= .ok (.enter 103 args) w:=ay Tryz.func103 (by kernel_rfl) rfl args w
theorem YB (args:Array Value) (w:World):(callFunc 104 args).run Tryz.prog w= .ok (.enter 104 args) w:=ay Tryz.func104 (by kernel_rfl) rfl args w
theorem aoU (args:Array Value) (w:World):(callFunc 105 args).run Tryz.prog w= .ok (.enter 105 args) w:=ay Tryz.func105 (by kernel_rfl) rfl args w
theorem aoV (args:Array Value) (w:World):(callFunc 106 args).run Tryz.prog w= .ok (.enter 106 args) w:=ay Tryz.func106 (by kernel_rfl) rfl args w
theorem aoW (args:Array Value) (w:World):(callFunc 107 args).run Tryz.prog w= .ok (.enter 107 args) w:=ay Tryz.func107 (by kernel_rfl) rfl args w
theorem EC (args:Array Value) (w:World):(callFunc 108 args).run Tryz.prog w= .ok (.enter 108 args) w:=ay Tryz.func108 (by kernel_rfl) rfl args w
theorem aoX (args:Array Value) (w:World):(callFunc 109 args).run Tryz.prog w= .ok (.enter 109 args) w:=ay Tryz.func109 (by kernel_rfl) rfl args w
theorem aoY (args:Array Value) (w:World):(callFunc 110 args).run Tryz.prog w= .ok (.enter 110 args) w:=ay Tryz.func110 (by kernel_rfl) rfl args w
theorem zR (args:Array Value) (w:World):(callFunc 111 args).run Tryz.prog w= .ok (.enter 111 args) w:=ay Tryz.func111 (by kernel_rfl) rfl args w
theorem af9 (args:Array Value) (w:World):(callFunc 112 args).run Tryz.prog w= .ok (.enter 112 args) w:=ay Tryz.func112 (by kernel_rfl) rfl args w
theorem lG (args:Array Value) (w:World):(callFunc 119 args).run Tryz.prog w= .ok (.enter 119 args) w:=ay Tryz.func119 (by kernel_rfl) rfl args w
theorem aga (args:Array Value) (w:World):(callFunc 120 args).run Tryz.prog w= .ok (.enter 120 args) w:=ay Tryz.func120 (by kernel_rfl) rfl args w
theorem aoZ (args:Array Value) (w:World):(callFunc 121 args).run Tryz.prog w= .ok (.enter 121 args) w:=ay Tryz.func121 (by kernel_rfl) rfl args w
theorem ao0 (args:Array Value) (w:World):(callFunc 122 args).run Tryz.prog w= .ok (.enter 122 args) w:=ay Tryz.func122 (by kernel_rfl) rfl args w
theorem ao1 (args:Array Value) (w:World):(callFunc 123 args).run Tryz.prog w= .ok (.enter 123 args) w:=ay Tryz.func123 (by kernel_rfl) rfl args w
theorem ao2 (args:Array Value) (w:World):(callFunc 124 args).run Tryz.prog w= .ok (.enter 124 args) w:=ay Tryz.func124 (by kernel_rfl) rfl args w
theorem ao3 (args:Array Value) (w:World):(callFunc 125 args).run Tryz.prog w= .ok (.enter 125 args) w:=ay Tryz.func125 (by kernel_rfl) rfl args w
theorem QV (args:Array Value) (w:World):(callFunc 127 args).run Tryz.prog w= .ok (.enter 127 args) w:=ay Tryz.func127 (by kernel_rfl) rfl args w
theorem pW (args:Array Value) (w:World):(callFunc 128 args).run Tryz.prog w= .ok (.enter 128 args) w:=ay Tryz.func128 (by kernel_rfl) rfl args w
theorem ao4 (args:Array Value) (w:World):(callFunc 129 args).run Tryz.prog w= .ok (.enter 129 args) w:=ay Tryz.func129 (by kernel_rfl) rfl args w
theorem yC (args:Array Value) (w:World):(callFunc 130 args).run Tryz.prog w= .ok (.enter 130 args) w:=ay Tryz.func130 (by kernel_rfl) rfl args w
theorem ao5 (args:Array Value) (w:World):(callFunc 131 args).run Tryz.prog w= .ok (.enter 131 args) w:=ay Tryz.func131 (by kernel_rfl) rfl args w
theorem ao6 (args:Array Value) (w:World):(callFunc 132 args).run Tryz.prog w= .ok (.enter 132 args) w:=ay Tryz.func132 (by kernel_rfl) rfl args w
theorem ED (args:Array Value) (w:World):(callFunc 134 args).run Tryz.prog w= .ok (.enter 134 args) w:=ay Tryz.func134 (by kernel_rfl) rfl args w
theorem rZ (args:Array Value) (w:World):(callFunc 135 args).run Tryz.prog w= .ok (.enter 135 args) w:=ay Tryz.func135 (by kernel_rfl) rfl args w
theorem agb (args:Array Value) (w:World):(callFunc 148 args).run Tryz.prog w= .ok (.enter 148 args) w:=ay Tryz.func148 (by kernel_rfl) rfl args w
theorem LU (args:Array Value) (w:World):(callFunc 151 args).run Tryz.prog w= .ok (.enter 151 args) w:=ay Tryz.func151 (by kernel_rfl) rfl args w
theorem YC (args:Array Value) (w:World):(callFunc 152 args).run Tryz.prog w= .ok (.enter 152 args) w:=ay Tryz.func152 (by kernel_rfl) rfl args w
theorem ao7 (args:Array Value) (w:World):(callFunc 153 args).run Tryz.prog w= .ok (.enter 153 args) w:=ay Tryz.func153 (by kernel_rfl) rfl args w
theorem YD (args:Array Value) (w:World):(callFunc 154 args).run Tryz.prog w= .ok (.enter 154 args) w:=ay Tryz.func154 (by kernel_rfl) rfl args w
theorem QW (args:Array Value) (w:World):(callFunc 155 args).run Tryz.prog w= .ok (.enter 155 args) w:=ay Tryz.func155 (by kernel_rfl) rfl args w
theorem ao8 (args:Array Value) (w:World):(callFunc 156 args).run Tryz.prog w= .ok (.enter 156 args) w:=ay Tryz.func156 (by kernel_rfl) rfl args w
theorem ao9 (args:Array Value) (w:World):(callFunc 157 args).run Tryz.prog w= .ok (.enter 157 args) w:=ay Tryz.func157 (by kernel_rfl) rfl args w
theorem agc (args:Array Value) (w:World):(callFunc 158 args).run Tryz.prog w= .ok (.enter 158 args) w:=ay Tryz.func158 (by kernel_rfl) rfl args w
theorem apa (args:Array Value) (w:World):(callFunc 159 args).run Tryz.prog w= .ok (.enter 159 args) w:=ay Tryz.func159 (by kernel_rfl) rfl args w
theorem agf (args:Array Value) (w:World):(callFunc 160 args).run Tryz.prog w= .ok (.enter 160 args) w:=ay Tryz.func160 (by kernel_rfl) rfl args w
theorem apb (args:Array Value) (w:World):(callFunc 161 args).run Tryz.prog w= .ok (.enter 161 args) w:=ay Tryz.func161 (by kernel_rfl) rfl args w
theorem agh (args:Array Value) (w:World):(callFunc 162 args).run Tryz.prog w= .ok (.enter 162 args) w:=ay Tryz.func162 (by kernel_rfl) rfl args w
theorem apc (args:Array Value) (w:World):(callFunc 163 args).run Tryz.prog w= .ok (.enter 163 args) w:=ay Tryz.func163 (by kernel_rfl) rfl args w
theorem EF (args:Array Value) (w:World):(callFunc 164 args).run Tryz.prog w= .ok (.enter 164 args) w:=ay Tryz.func164 (by kernel_rfl) rfl args w
theorem QX (args:Array Value) (w:World):(callFunc 167 args).run Tryz.prog w= .ok (.enter 167 args) w:=ay Tryz.func167 (by kernel_rfl) rfl args w
theorem LV (args:Array Value) (w:World):(callFunc 168 args).run Tryz.prog w= .ok (.enter 168 args) w:=ay Tryz.func168 (by kernel_rfl) rfl args w
theorem apd (args:Array Value) (w:World):(callFunc 169 args).run Tryz.prog w= .ok (.enter 169 args) w:=ay Tryz.func169 (by kernel_rfl) rfl args w
theorem ape (args:Array Value) (w:World):(callFunc 170 args).run Tryz.prog w= .ok (.enter 170 args) w:=ay Tryz.func170 (by kernel_rfl) rfl args w
theorem QY (args:Array Value) (w:World):(callFunc 171 args).run Tryz.prog w= .ok (.enter 171 args) w:=ay Tryz.func171 (by kernel_rfl) rfl args w
theorem apf (args:Array Value) (w:World):(callFunc 172 args).run Tryz.prog w= .ok (.enter 172 args) w:=ay Tryz.func172 (by kernel_rfl) rfl args w
theorem apg (args:Array Value) (w:World):(callFunc 173 args).run Tryz.prog w= .ok (.enter 173 args) w:=ay Tryz.func173 (by kernel_rfl) rfl args w
theorem aph (args:Array Value) (w:World):(callFunc 180 args).run Tryz.prog w= .ok (.enter 180 args) w:=ay Tryz.func180 (by kernel_rfl) rfl args w
theorem agi (args:Array Value) (w:World):(callFunc 181 args).run Tryz.prog w= .ok (.enter 181 args) w:=ay Tryz.func181 (by kernel_rfl) rfl args w
theorem kg (args:Array Value) (w:World):(callFunc 183 args).run Tryz.prog w= .ok (.enter 183 args) w:=ay Tryz.func183 (by kernel_rfl) rfl args w
theorem mixed:Tryz.prog.follows .mixedOrders=true:=by kernel_rfl
end Go.Proofs.YtbffmhpkenoogaaGreatDoor
namespace Go.Proofs.YtbffmhpkenoogaaGreatDoor
open Go.ChangeShapes Go.WideShapes Go.ChangeAt Go.RowKit
section
variable {P:Program} {N:Nat} {l:Slots} {o:Oper} {w w' w0:World} {B:Nat} {fs:List Fact}
theorem Ul {f:FuncId} {first cap us:List Value} {x:Operand} {xs:List Operand} {ts:Array TypeId} {vs:List Value} (ho:o.op= .call { callee:= .value x,args:=xs.toArray,argTypes:=ts }) (hv:ev l x=some (.func (.func f) first.toArray cap.toArray))
  (IL: ∀ args w,(callFunc f args).run P w= .ok (.enter f args) w) (hx:LA l xs vs) (hu:first++vs++cap=us):Enter P N l o w f us:=fun a F=>by
 subst hu;have h1:=F.evs hx;unfold execOp;simp only [ho,resolve,F.ev hv,Deferred.ofValue,invoke,Sem.run_bind,Sem.run_pure,Result.andThen_ok,List.map_toArray,h1];simp [IL]
theorem GX {f:Fn} {xs ys:List Operand} {vs us:List Value} (ho:o.op= .makeFunc f xs.toArray ys.toArray) (hx:LA l xs vs) (hy:LA l ys us):gq P N l o w (.func f vs.toArray us.toArray):=fun a F=>by
 have h1:=F.evs hx;have h2:=F.evs hy;unfold execOp;simp only [ho,List.map_toArray,h1,h2];rfl
theorem Zl {b off s n:Nat} {row:Array Value} {t:TypeId} {xs:List Value} (i:Nat) (S:St B w0 w fs) (hi:fs[i]? =some (.blk b row t)) (hl:xs.length=n*s) (hx: ∀ (j:Nat) (u:Value),xs[j]? =some u→row[off+j]? =some u):Rd w w.heap.size s (some ⟨b,off,none⟩) n xs:=
 ⟨hl,fun _=>⟨b,off,rfl,S.lt i hi,fun j u hu=>S.cl i hi (hx j u hu)⟩⟩
theorem BK {base:Nat} {e:TypeId} {size n c:Nat} {A:Option Addr} {xs:List Value} (h:w.ownsRow base e size (.slice A n c) n xs) (hn:0<n): ∃ g,A=some ⟨g,0,none⟩:=by
 rcases h.2 with ⟨_,h0⟩ | ⟨g,cap,cur,hv,_⟩
 ·omega
 exact ⟨g,by injection hv⟩
theorem St.YE {e e':TypeId} {s s':Nat} {g n c n' c':Nat} {xs xs':List Value} (i:Nat) (S:St B w0 w fs) (hi:fs[i]? =some (.own e s (.slice (some ⟨g,0,none⟩) n c) n xs)) (hu:rT w g w') (ho:w'.ownsRow B e' s' (.slice (some ⟨g,0,none⟩) n' c') n' xs'):
  St B w0 w' (fs.set i (.own e' s' (.slice (some ⟨g,0,none⟩) n' c') n' xs')):=
 S.turn i hi (hu.next S.low (Fact.lF (S.all i _ hi) rfl).1) (Nat.le_of_eq hu.size.symm) (fun k _ hk=>hu.block k (fun e=>hk (by rw [e];rfl))) ho (fun k hk=> .inl hk)
theorem F9 {α:Type} {enc:α→List Value} {sz:Nat} (hsz: ∀ x,(enc x).length=sz): ∀ (k:Nat) (l:List α),(l.flatMap enc).take (k*sz)++(l.flatMap enc).drop ((k+1)*sz)=(l.eraseIdx k).flatMap enc
 | 0,[]=>by simp
 | 0,x::l=>by rw [List.flatMap_cons,Nat.zero_mul,List.take_zero,List.nil_append,Nat.zero_add,Nat.one_mul,List.drop_left' (hsz x)];rfl
 | k+1,[]=>by simp
 | k+1,x::l=>by
  rw [List.eraseIdx_cons_succ,List.flatMap_cons,List.flatMap_cons,←F9 hsz k l,Nat.succ_mul k,Nat.succ_mul (k+1),Nat.add_comm _ sz,Nat.add_comm _ sz,List.take_append,List.drop_append,hsz x];rw [List.take_of_length_le (by rw [hsz x];omega),List.drop_of_length_le (by rw [hsz x];omega),Nat.add_sub_cancel_left,Nat.add_sub_cancel_left,List.nil_append,List.append_assoc,Nat.succ_mul k,Nat.add_comm sz]
end
theorem aJ {B:Nat} {w0 w:World} {fs:List Fact} {s:Nat} (S:St B w0 w fs):St B w0 w (.bG s none 0 []::fs):=S.cons ⟨Rd.none_,fun a h=>by cases h⟩ fun k hk=>by cases hk
end Go.Proofs.YtbffmhpkenoogaaGreatDoor
namespace Go.Proofs.YtbffmhpkenoogaaGreatDoor
open Go.ChangeShapes Go.WideShapes Go.RowKit
inductive Pick (l:Slots):List Nat→Slots→Prop
 | z:Pick l [] []
 | s {k:Nat} {ks:List Nat} {v:Value} {l':Slots}:lk l k=some v→Pick l ks l'→Pick l (k::ks) ((k,v)::l')
theorem Pick.sub {l:Slots} {ks:List Nat} {l':Slots} (h:Pick l ks l'):HY l l':=by
 induction h with
 | z=>exact trivial
 | s h _ ih=>exact ⟨h,ih⟩
inductive iy (f:Fact):List Fact→Nat→List Fact→Prop
 | z {g:Fact} {fs:List Fact}:iy f (g::fs) 0 (f::fs)
 | s {g:Fact} {fs fs':List Fact} {i:Nat}:iy f fs i fs'→iy f (g::fs) (i+1) (g::fs')
theorem iy.eq {f:Fact} {fs fs':List Fact} {i:Nat} (h:iy f fs i fs'):fs.set i f=fs':=by
 induction h with
 | z=>rfl
 | s _ ih=>rw [List.set_cons_succ,ih]
def agj:List Nat→List Fact→List Fact
 | [],fs=>fs
 | i::is,fs=>agj is (fs.eraseIdx i)
theorem St.oh {B:Nat} {w0 w:World}: ∀ {fs:List Fact} (_:St B w0 w fs) (is:List Nat),St B w0 w (agj is fs)
 | _,S,[]=>S
 | _,S,i::is=>(St.del i S).oh is
theorem FK {α:Type} {enc:α→List Value} {w:World} {B sz n:Nat} {A:Option Addr} {l:List α} (k:Nat) (h:Rd w B sz A n (l.flatMap enc)) (hk:k<n) (hs: ∀ x,(enc x).length=sz:=by exact fun _=>rfl) (hz:Nat.blt 0 sz=true:=by exact rfl): ∃ x,l[k]? =some x:=by
 have h1:=h.1;rw [gL hs] at h1;have h2:l.length=n:=Nat.eq_of_mul_eq_mul_right (Nat.le_of_ble_eq_true hz) h1;exact ⟨_,List.getElem?_eq_getElem (by omega)⟩
section
variable {P:Program} {N:Nat} {l l':Slots} {w w' w0:World} {ops:Array Oper} {o:Oper} {rest:List Oper} {Q:Exit→Act→World→Prop} {d B:Nat} {v p:Value} {fs fs':List Fact} {ex:Exit}
theorem qk (ks:List Nat) (h:wQ N Q .normal l' w) (hp:Pick l ks l':=by repeat' first | exact Pick.z | apply Pick.s rfl):wL P N ops Q [] l w:=Y6 (bN hp.sub h)
theorem cw {c:Code} (ks:List Nat) (h:wC P N c Q l' w) (hp:Pick l ks l':=by repeat' first | exact Pick.z | apply Pick.s rfl):wC P N c Q l w:=bq hp.sub h
section
variable {x:Operand}
theorem ym (ho:o.op= .move x:=by exact rfl) (hx:ev l x=some v:=by exact rfl):gq P N l o w v:=Y7 ho hx
theorem ya (ho:o.op= .assign x:=by exact rfl) (hx:ev l x=some v:=by exact rfl):gq P N l o w v:=Nv ho hx
theorem yx {k:Nat} {vs:Array Value} (ho:o.op= .extract x k:=by exact rfl) (hx:ev l x=some (.tuple vs):=by exact rfl) (hk:vs[k]? =some v:=by exact rfl):gq P N l o w v:=VD ho hx hk
theorem ypT {c y:Operand} (ho:o.op= .pick c x y:=by exact rfl) (hc:ev l c=some (.bool true):=by exact rfl) (hx:ev l x=some v:=by exact rfl):gq P N l o w v:=aaz ho hc hx
theorem ypF {c y:Operand} (ho:o.op= .pick c x y:=by exact rfl) (hc:ev l c=some (.bool false):=by exact rfl) (hx:ev l y=some v:=by exact rfl):gq P N l o w v:=aaA ho hc hx
theorem yno {t:TypeId} {b c:Bool} (ho:o.op= .unOp .not t x:=by exact rfl) (hx:ev l x=some (.bool b):=by exact rfl) (hb:(!b)=c:=by exact rfl):gq P N l o w (.bool c):=hb▸aiX ho hx aoF
theorem yfa {s:TypeId} {f b o0:Nat} {g:Nat→Nat} (o':Nat) (hf: ∀ (b o:Nat) (w:World),(Instr.fieldAt s (.pointer (some ⟨b,o,none⟩)) f).run P w= .ok (.pointer (some ⟨b,g o,none⟩)) w) (ho:o.op= .fieldAddr s x f:=by exact rfl)
  (hx:ev l x=some (.pointer (some ⟨b,o0,none⟩)):=by exact rfl) (he:g o0=o':=by exact rfl):gq P N l o w (.pointer (some ⟨b,o',none⟩)):=he▸D8 ho hx (hf b o0 w)
theorem gB {t:TypeId} (ho:o.op= .build t ([]:List (Nat×Operand)).toArray:=by exact rfl) (hr:(Instr.build t ([]:List (Nat×Value)).toArray).run P w= .ok (.agg #[.int .i64 0,.int .i64 0,.int .i64 0,.int .i64 0,.int .i64 0,.slice none 0 0]) w:=by kernel_rfl):gq P N l o w (.agg #[.int .i64 0,.int .i64 0,.int .i64 0,.int .i64 0,.int .i64 0,.slice none 0 0]):=Ba (vs:=[]) ho trivial hr
theorem yz {t:TypeId} (ho:o.op= .build t ([]:List (Nat×Operand)).toArray:=by exact rfl) (hr:(Instr.build t ([]:List (Nat×Value)).toArray).run P w= .ok v w:=by kernel_rfl):gq P N l o w v:=Ba (vs:=[]) ho trivial hr
end
section
variable {t tt:TypeId} {kd:IntKind} {xo yo:Operand} {x y:Int}
theorem zS (ho:o.op= .binOp .lss t xo yo tt:=by exact rfl) (hx:ev l xo=some (.int kd x):=by exact rfl) (hy:ev l yo=some (.int kd y):=by exact rfl) (h:x<y:=by decide):gq P N l o w (.bool true):=ah ho hx hy (KN h)
theorem agk (ho:o.op= .binOp .lss t xo yo tt:=by exact rfl) (hx:ev l xo=some (.int kd x):=by exact rfl) (hy:ev l yo=some (.int kd y):=by exact rfl) (h: ¬ x<y:=by decide):gq P N l o w (.bool false):=ah ho hx hy (KO h)
theorem apj (h:x=y) (ho:o.op= .binOp .eql t xo yo tt:=by exact rfl) (hx:ev l xo=some (.int kd x):=by exact rfl) (hy:ev l yo=some (.int kd y):=by exact rfl):gq P N l o w (.bool true):=ah ho hx hy (KP h)
theorem QZ (h: ¬ x=y) (ho:o.op= .binOp .eql t xo yo tt:=by exact rfl) (hx:ev l xo=some (.int kd x):=by exact rfl) (hy:ev l yo=some (.int kd y):=by exact rfl):gq P N l o w (.bool false):=ah ho hx hy (KQ h)
theorem apk (ho:o.op= .binOp .neq t xo yo tt:=by exact rfl) (hx:ev l xo=some (.int kd x):=by exact rfl) (hy:ev l yo=some (.int kd y):=by exact rfl) (h:x=y:=by decide):gq P N l o w (.bool false):=ah ho hx hy (EK h)
end
section
variable {C:World→Prop} {Qa:Act→Prop} {j:Nat} {t:Nat} {u:Value} {x:Operand}
theorem vv (hy:gq P N l o w v) (h:wL P N ops Q rest ((d,v)::l) w) (hw:o.guard=none:=by exact rfl) (hd:o.dst=some d:=by exact rfl) (hN:Nat.blt d N=true:=by exact rfl):wL P N ops Q (o::rest) l w:=Co (wn hw) hd hN hy h
theorem vm (h:wL P N ops Q rest ((d,v)::l) w) (hw:o.guard=none:=by exact rfl) (hd:o.dst=some d:=by exact rfl) (hN:Nat.blt d N=true:=by exact rfl) (ho:o.op= .move x:=by exact rfl) (hx:ev l x=some v:=by exact rfl):wL P N ops Q (o::rest) l w:=Co (wn hw) hd hN (Y7 ho hx) h
theorem va (h:wL P N ops Q rest ((d,v)::l) w) (hw:o.guard=none:=by exact rfl) (hd:o.dst=some d:=by exact rfl) (hN:Nat.blt d N=true:=by exact rfl) (ho:o.op= .assign x:=by exact rfl) (hx:ev l x=some v:=by exact rfl):wL P N ops Q (o::rest) l w:=Co (wn hw) hd hN (Nv ho hx) h
theorem vg {b:Bool} (hy:gq P N l o w v) (h:wL P N ops Q rest ((d,v)::l) w) (hg:o.guard=some (j,b):=by exact rfl) (hj:(ops[j]?).bind (·.dst)=some t:=by exact rfl) (hv:lk l t=some u:=by exact rfl) (hr:(yl u==some b)=true:=by exact rfl)
  (hd:o.dst=some d:=by exact rfl) (hN:Nat.blt d N=true:=by exact rfl):wL P N ops Q (o::rest) l w:=Co (wg hg hj hv hr) hd hN hy h
theorem vs {b:Bool} (h:wL P N ops Q rest ((d,undef)::l) w) (hg:o.guard=some (j,b):=by exact rfl) (hj:(ops[j]?).bind (·.dst)=some t:=by exact rfl) (hv:lk l t=some u:=by exact rfl) (hr:(yl u==some b)=false:=by exact rfl) (hd:o.dst=some d:=by exact rfl) (hN:Nat.blt d N=true:=by exact rfl):wL P N ops Q (o::rest) l w:=T9 (wg hg hj hv hr) hd hN h
theorem uv (hy: ∀ w,C w→gq P N l o w v) (h:wU P N ops C Qa rest ((d,v)::l)) (hw:o.guard=none:=by exact rfl) (hd:o.dst=some d:=by exact rfl) (hN:Nat.blt d N=true:=by exact rfl):wU P N ops C Qa (o::rest) l:=JE (wn hw) hd hN hy h
theorem ug {b:Bool} (hy: ∀ w,C w→gq P N l o w v) (h:wU P N ops C Qa rest ((d,v)::l)) (hg:o.guard=some (j,b):=by exact rfl) (hj:(ops[j]?).bind (·.dst)=some t:=by exact rfl) (hv:lk l t=some u:=by exact rfl) (hr:(yl u==some b)=true:=by exact rfl)
  (hd:o.dst=some d:=by exact rfl) (hN:Nat.blt d N=true:=by exact rfl):wU P N ops C Qa (o::rest) l:=JE (wg hg hj hv hr) hd hN hy h
theorem ak {n:Nat} {listed listed':Array Bool} (i:Nat) (hi:ops[i]? =some o) (hS:C w) (hy: ∀ w,C w→gq P N l o w v) (h:wA P N ops Q C n listed' ((d,v)::l) w) (hs:Region.noSelect ops=true:=by kernel_rfl) (hf:Region.free .any ops listed i=true:=by kernel_rfl)
  (hr:(Region.ready .any ops listed).contains i=true:=by kernel_rfl) (hl:listed.setIfInBounds i true=listed':=by exact rfl) (hw:o.guard=none:=by exact rfl) (hd:o.dst=some d:=by exact rfl) (hN:Nat.blt d N=true:=by exact rfl):wA P N ops Q C (n+1) listed l w:=KT hi hs hf hr hS hl (wn hw) hd hN hy h
theorem gk {n m:Nat} {listed listed':Array Bool} (i:Nat) (hi:ops[i]? =some o) (hS:C w) (hy: ∀ w,C w→gq P N l o w v) (h:wG P N ops Q C n m listed' ((d,v)::l) w) (hs:Region.noSelect ops=true:=by kernel_rfl) (hf:Region.free .any ops listed i=true:=by kernel_rfl)
  (hr:(Region.ready .any ops listed).contains i=true:=by kernel_rfl) (hnl:listed.getD n true=false:=by exact rfl) (hni:vC ops n i=true:=by kernel_rfl) (hne:Nat.beq n i=false:=by exact rfl) (hl:listed.setIfInBounds i true=listed':=by exact rfl) (hw:o.guard=none:=by exact rfl)
  (hd:o.dst=some d:=by exact rfl) (hN:Nat.blt d N=true:=by exact rfl):wG P N ops Q C n (m+1) listed l w:=Bc hi hs hf hr hnl hni hne hS hl (wn hw) hd hN hy h
theorem aS {n:Nat} {listed:Array Bool} (r:Nat) (h:wK P N ops Q C n r listed l w) (hr:Region.ready .any ops listed=[r]:=by kernel_rfl):wA P N ops Q C (n+1) listed l w:=ai3 hr h
end
section
variable {b m f:Nat} {row row' cs:Array Value} {t ty:TypeId} {x y:Operand} {ds:TypeDesc} {z u:Value}
theorem sa (i:Nat) (S:St B w0 w fs) (hz:(P.info? ty).map (·.size)=some m) (h: ∀ w',St B w0 w' fs'→wL P N ops Q rest l w') (hw:o.guard=none:=by exact rfl) (hd:o.dst=none:=by exact rfl) (ho:o.op= .store ty x y:=by exact rfl)
  (hx:ev l x=some (.pointer (some ⟨b,0,none⟩)):=by exact rfl) (hy:ev l y=some v:=by exact rfl) (hi:fs[i]? =some (.blk b row t):=by exact rfl) (hv:v.cells=cs:=by exact rfl) (hm:cs.size=m:=by exact rfl)
  (h1:cs.toList.all (·.oneCell')=true:=by exact rfl) (hr:Nat.ble m row.size=true:=by exact rfl) (hs:row.size=cs.size:=by exact rfl) (hf:iy (.blk b cs t) fs i fs':=by repeat' first | exact iy.z | apply iy.s):wL P N ops Q (o::rest) l w:=
 EA i S (wn hw) hd ho hx hy hi hv hz hm (bZ h1) (by rw [Nat.zero_add];exact Nat.le_of_ble_eq_true hr) (pU hs) hf.eq h
theorem sn {C:World→Prop} {n:Nat} {listed listed':Array Bool} (j:Nat) (hi':ops[j]? =some o) (i:Nat) (S:St B w0 w fs) (hz:(P.info? ty).map (·.size)=some m) (h: ∀ w',St B w0 w' fs'→C w'∧wA P N ops Q C n listed' l w') (hl:listed.setIfInBounds j true=listed':=by exact rfl)
  (hw:o.guard=none:=by exact rfl) (hd:o.dst=none:=by exact rfl) (ho:o.op= .store ty x y:=by exact rfl) (hx:ev l x=some (.pointer (some ⟨b,0,none⟩)):=by exact rfl) (hy:ev l y=some v:=by exact rfl) (hi:fs[i]? =some (.blk b row t):=by exact rfl) (hv:v.cells=cs:=by exact rfl)
  (hm:cs.size=m:=by exact rfl) (h1:cs.toList.all (·.oneCell')=true:=by exact rfl) (hr:Nat.ble m row.size=true:=by exact rfl) (hs:row.size=cs.size:=by exact rfl) (hf:iy (.blk b cs t) fs i fs':=by repeat' first | exact iy.z | apply iy.s):wK P N ops Q C n j listed l w:=
 rY hi' hl i S (wn hw) hd ho hx hy hi hv hz hm (bZ h1) (by rw [Nat.zero_add];exact Nat.le_of_ble_eq_true hr) (pU hs) hf.eq h
theorem qB {vs:List Value} {R:Ending→World→Prop} {xs:List Operand} {ts:Array TypeId} {j tg:Nat} {bb:Bool} (IL: ∀ args w,(callFunc f args).run P w= .ok (.enter f args) w) (hc:Calls P f vs.toArray w R) (h: ∀ e w',R e w'→ ∃ v,e= .returned v∧wL P N ops Q rest ((d,v)::l) w')
  (hg:o.guard=some (j,bb):=by exact rfl) (hj:(ops[j]?).bind (·.dst)=some tg:=by exact rfl) (hv:lk l tg=some u:=by exact rfl) (hr:(yl u==some bb)=true:=by exact rfl) (hd:o.dst=some d:=by exact rfl) (hN:Nat.blt d N=true:=by exact rfl)
  (ho:o.op= .call { callee:= .value (.func f),args:=xs.toArray,argTypes:=ts }:=by exact rfl) (hx:LA l xs vs:=by repeat' first | exact trivial | refine ⟨rfl,?_⟩):wL P N ops Q (o::rest) l w:=EJ (wg hg hj hv hr) hd hN (lM ho IL hx) hc h
theorem nb {row:Array Value} (S:St B w0 w fs) (h: ∀ b w',St B w0 w' (.blk b row t::fs)→wL P N ops Q rest ((d,.pointer (some ⟨b,0,none⟩))::l) w') (hw:o.guard=none:=by exact rfl) (hd:o.dst=some d:=by exact rfl)
  (hN:Nat.blt d N=true:=by exact rfl) (ho:o.op= .box t x:=by exact rfl) (hx:ev l x=some p:=by exact rfl) (hc:p.cells=row:=by exact rfl):wL P N ops Q (o::rest) l w:=gV (V:=fun b=> .pointer (some ⟨b,0,none⟩)) S (wn hw) hd hN (Yv ho hx hc) h
theorem dO {vs:List Value} {R:Ending→World→Prop} {xs:List Operand} {ts:Array TypeId} (IL: ∀ args w,(callFunc f args).run P w= .ok (.enter f args) w) (hc:Calls P f vs.toArray w R) (h: ∀ e w',R e w'→ ∃ v,e= .returned v∧wL P N ops Q rest ((d,v)::l) w')
  (hw:o.guard=none:=by exact rfl) (hd:o.dst=some d:=by exact rfl) (hN:Nat.blt d N=true:=by exact rfl) (ho:o.op= .call { callee:= .value (.func f),args:=xs.toArray,argTypes:=ts }:=by exact rfl) (hx:LA l xs vs:=by repeat' first | exact trivial | refine ⟨rfl,?_⟩):
  wL P N ops Q (o::rest) l w:=EJ (wn hw) hd hN (lM ho IL hx) hc h
theorem cab {vs:List Value} {xs:List Operand} {ts:Array TypeId} (IL: ∀ args w,(callFunc f args).run P w= .ok (.enter f args) w) (S:St B w0 w fs) (hc:Calls P f vs.toArray w fun e w'=>e= .returned v∧Below w.heap.size w w') (h: ∀ w',St B w0 w' fs→wL P N ops Q rest ((d,v)::l) w')
  (hw:o.guard=none:=by exact rfl) (hd:o.dst=some d:=by exact rfl) (hN:Nat.blt d N=true:=by exact rfl) (ho:o.op= .call { callee:= .value (.func f),args:=xs.toArray,argTypes:=ts }:=by exact rfl) (hx:LA l xs vs:=by repeat' first | exact trivial | refine ⟨rfl,?_⟩):
  wL P N ops Q (o::rest) l w:=EJ (wn hw) hd hN (lM ho IL hx) hc fun _ w' h'=>⟨v,h'.1,h w' (S.on h'.2)⟩
theorem fE {fn:Func} {c:Code} {vs:List Value} {R:Ending→World→Prop} (N:Nat) (hf:P.funcs[f]? =some fn) (h:wC P N c (bodyPost P fn R) (ents 0 vs) w) (hb:fn.body=some c:=by exact rfl) (hn:fn.ntmps=N:=by exact rfl) (hN:Nat.ble vs.length N=true:=by exact rfl):Calls P f vs.toArray w R:=O7 hf hb hn hN h
end
section
theorem Ql {c6 c8:Code} {q3:Exit→Act→World→Prop} {o4:Operand} {i10:Nat} {os9:List Oper} (h:wL P N os9.toArray (Exit.then (c8.wp P q3) q3) os9 l w) (hc0:ev l o4=some (.bool true):=by exact rfl):wQ N (Exit.then ((Code.cond o4 (Code.seq (Code.region i10 os9.toArray false) c8) c6).wp P q3) q3) .normal l w:=gJ (kP hc0 (aW (aO h)))
theorem ajY {c5 c7:Code} {q3:Exit→Act→World→Prop} {i9:Nat} {os8:List Oper} (h:wL P N os8.toArray (Exit.then (c7.wp P (Exit.then (c5.wp P q3) q3)) (Exit.then (c5.wp P q3) q3)) os8 l w):wQ N (Exit.then ((Code.seq (Code.seq (Code.region i9 os8.toArray false) c7) c5).wp P q3) q3) .normal l w:=gJ (aW (aW (aO h)))
theorem aaF {c5 c10:Code} {q8:Exit→Act→World→Prop} {o4:Operand} {i12:Nat} {ab2:List Oper} (h:wL P N ab2.toArray (Exit.then (c10.wp P q8) q8) ab2 l w) (hc0:ev l o4=some (.bool false):=by exact rfl):wQ N (Exit.then ((Code.cond o4 c5 Code.skip).wp P (Exit.then ((Code.seq (Code.region i12 ab2.toArray false) c10).wp P q8) q8)) (Exit.then ((Code.seq (Code.region i12 ab2.toArray false) c10).wp P q8) q8)) .normal l w:=gJ (kQ hc0 (oU (gJ (aW (aO h)))))
end
end
end Go.Proofs.YtbffmhpkenoogaaGreatDoor
namespace Go.Proofs.YtbffmhpkenoogaaGreatDoor
open Go.ChangeShapes Go.WideShapes Go.ChangeAt Go.RowKit
section
variable {P:Program} {N:Nat} {l:Slots} {w w' w0:World} {B:Nat} {fs fs':List Fact} {ops:Array Oper} {o:Oper} {rest:List Oper} {Q:Exit→Act→World→Prop} {v:Value} {d:Nat}
theorem Rd.Zm {e:TypeId} {s n c:Nat} {A:Option Addr} {xs:List Value} (h:mP w B e s A n c xs):Rd w w.heap.size s A n xs:=by
 obtain ⟨h1,h2,h3,⟨rfl,h4⟩ | ⟨g,o,cur,rfl,h4,h5,h6,h7⟩⟩:=h
 ·exact ⟨h1,fun hn=>absurd hn (by omega)⟩
 refine ⟨h1,fun _=>⟨g,o,rfl,(Array.getElem?_eq_some_iff.1 h5).1,fun j u hu=>?_⟩⟩;rw [←h7] at hu;have hj:j<n*s:=by
  have:=(List.getElem?_eq_some_iff.1 hu).1;rw [List.length_take] at this;omega
 rw [List.getElem?_take_of_lt hj,List.getElem?_drop] at hu;rw [cell_of_row w g (o+j) _ e (0,0) h5];simpa using hu
theorem mP.vk (w:World) (B:Nat) (e:TypeId) (s:Nat):mP w B e s none 0 0 []:=⟨by simp,Nat.le_refl _,Nat.zero_le _,.inl ⟨rfl,rfl⟩⟩
theorem mP.rF {e:TypeId} {s n c:Nat} {A:Option Addr} {xs:List Value} (h:w.ownsRow B e s (.slice A n c) n xs):mP w B e s A n c xs:=by
 obtain ⟨h1,⟨h2,rfl⟩ | ⟨g,cap,cur,hv,hg,hh,hnc,hcm,hsz,htk⟩⟩:=h
 ·injection h2 with a b c'
  subst a;subst c';exact ⟨h1,Nat.le_refl _,Nat.zero_le _,.inl ⟨rfl,rfl⟩⟩
 injection hv with a b c'
 subst a;subst c';exact ⟨h1,hnc,hcm,.inr ⟨g,0,cur,rfl,hg,hh,by omega,by simpa using htk⟩⟩
theorem mP.cut {e:TypeId} {s n c k:Nat} {A:Option Addr} {xs:List Value} (h:mP w B e s A n c xs) (hk:k≤n):mP w B e s (if c=k then A else A.map (·.add (k*s))) (n-k) (c-k) (xs.drop (k*s)):=by
 obtain ⟨h1,h2,h3,h4⟩:=h;refine ⟨by rw [List.length_drop,h1,Nat.sub_mul],by omega,by omega,?_⟩
 rcases h4 with ⟨rfl,h4⟩ | ⟨g,o,cur,rfl,h4,h5,h6,h7⟩
 ·exact .inl ⟨by split<;>rfl,by omega⟩
 refine .inr ?_;by_cases hc:c=k
 ·rw [if_pos hc];have hn:n=k:=by omega
  refine ⟨g,o,cur,rfl,h4,h5,by rw [show c-k=0 by omega];omega,?_⟩;rw [show n-k=0 by omega,Nat.zero_mul,List.take_zero,←h7,hn,List.drop_take,Nat.sub_self,List.take_zero]
 rw [if_neg hc];refine ⟨g,o+k*s,cur,by simp [Addr.add],h4,h5,?_,?_⟩
 ·have:k*s+(c-k)*s=c*s:=by rw [←Nat.add_mul];congr 1;omega
  omega
 rw [←h7,List.drop_take,List.drop_drop,←Nat.sub_mul]
theorem Ia (w:World) (B:Nat) (t ty e:TypeId) (i:TypeInfo) (z:Value) (size bytes:Nat) (ht:P.underlying t=some (.slice e)) (hi:P.info? e=some i) (hz:i.zero=some z)
    (hsize:i.size=size) (hby:i.bytes=bytes) (hzs:z.cells.size=size) (hsz:0<size) (A:Option Addr) (n c:Nat) (xs:List Value) (hown:mP w B e size A n c xs)
    (a:Addr) (m c2:Nat) (news:List Value) (hl:news.length=m*size) (hnews: ∀ j u,news[j]? =some u→w.cell? (a.add j)=some u) (h1: ∀ u∈news,u.oneCell'=true)
    (h63:n+m≤maxLen) (hbytes:(n+m)*bytes≤140737488355328) (hbase:B≤w.heap.size) (hm:0<m):
    ∃ A' c' w',(Builtin.append_ #[t,t] ty #[.slice A n c,.slice (some a) m c2]).run P w= .ok (.slice A' (n+m) c') w'∧mP w' B e size A' (n+m) c' (xs++news)∧w.grownBy w' (A.map (·.block))∧
      (A'.map (·.block)=A.map (·.block)∨A'.map (·.block)=some w.heap.size):=by
  subst hsize;subst hby;have hsmall:n+m≤9223372036854775807:=by simp only [maxLen] at h63;omega
  have hrd:=Rd.Zm hown;obtain ⟨hx1,hx2,hx3,hx4⟩:=hown;have hlen:(xs++news).length=(n+m)*i.size:=by rw [List.length_append,hx1,hl,Nat.add_mul]
  have grown: ∀ (old:Nat),old<n+m→ ∀ (row:Option Nat),
      mP (w.drew.alloc (.cells (xs.toArray++news.toArray++Builtin.zeroCells z.cells (grownCap w (n+m) old e-(n+m))) e)) B e i.size (some ⟨w.heap.size,0,none⟩) (n+m) (grownCap w (n+m) old e) (xs++news)∧
      w.grownBy (w.drew.alloc (.cells (xs.toArray++news.toArray++Builtin.zeroCells z.cells (grownCap w (n+m) old e-(n+m))) e)) row:=by
    intro old ho row;have hge:=grownCap_ge w (n+m) old e;have hcm:grownCap w (n+m) old e≤maxLen:=grownCap_le_maxLen w (n+m) old e h63;refine ⟨⟨hlen,hge,hcm,.inr ⟨w.heap.size,0,_,rfl,hbase,heap_alloc_new w.drew _,?_,?_⟩⟩,⟨rfl,rfl,rfl,by simp,fun k hk _=>heap_alloc_old w.drew _ hk⟩⟩
    · simp only [Array.size_append,List.size_toArray,size_zeroCells,hzs,hx1,hl,←Nat.add_mul]
      rw [Nat.zero_add];refine Nat.mul_le_mul_right _ ?_;omega
    · simp only [Array.toList_append,List.append_assoc,List.drop_zero]
      rw [←List.append_assoc,←hlen];exact List.take_left
  rcases hx4 with ⟨rfl,rfl⟩ | ⟨g,of,cur,rfl,hg,hh,hcs,htake⟩
  · have hn0:n=0:=by omega
    subst hn0;have hx:xs=[]:=List.eq_nil_of_length_eq_zero (by simpa using hx1);subst hx;have hr:=run_append_nil (P:=P) w t ty e i z ht hi hz a m c2 news hl hnews (by omega) (by omega) (by have hb:=hbytes;simp only [Nat.zero_add] at hb;omega);have hgr:=grown 0 (by omega) none;simp only [Nat.zero_add,List.nil_append,Array.empty_append] at hgr⊢;exact ⟨_,_,_,hr,hgr.1,hgr.2,Or.inr rfl⟩
  · by_cases hroom:n+m≤c
    · have hle:(n+m)*i.size≤c*i.size:=Nat.mul_le_mul_right _ hroom
      have hfit:of+n*i.size+news.length≤cur.size:=by rw [hl,Nat.add_assoc,←Nat.add_mul];omega
      have hb:eP w g cur e:=⟨hh⟩;have hr:=run_append_room_cells (P:=P) (w:=w) t ty e i ht hi g of n c a m c2 news hl hnews h1 hroom
        (fun j hj=>by rw [hb.cell (k:=of+n*i.size+j) (Array.getElem?_eq_getElem (by omega))];rfl) (fun j _=>hb.free _)
      have hb':=iZ news (of+n*i.size) hb;refine ⟨_,_,_,hr,⟨hlen,hroom,hx3,.inr ⟨g,of,_,rfl,hg,hb'.blk,by rw [lV];exact hcs,?_⟩⟩,?_,Or.inl rfl⟩
      · rw [fV _ _ _ hfit,←hlen]
        have e1:(cur.toList.take (of+n*i.size)).drop of=xs:=by rw [←htake,List.drop_take];congr 1;omega
        have e2:of≤(cur.toList.take (of+n*i.size)).length:=by rw [List.length_take,Array.length_toList];omega
        rw [List.append_assoc,List.drop_append_of_le_length e2,e1,←List.append_assoc];exact List.take_left
      · have hu:=jc g news (of+n*i.size) w
        exact ⟨hu.os,hu.tape,hu.output,Nat.le_of_eq hu.size.symm,fun k _ hk=>hu.block k (fun e=>hk (by simp [e]))⟩
    · have hr:=run_append_grow (P:=P) w t ty e i z ht hi hz ⟨g,of,none⟩ n c xs hx1 (fun j u hu=>by
          have hj:j<n*i.size:=by have:=(List.getElem?_eq_some_iff.1 hu).1;omega
          obtain ⟨b,off,e1,_,hc⟩:=hrd.2 (Nat.pos_of_ne_zero fun h0=>by subst h0;omega)
          injection e1 with e1
          injection e1 with e1 e2
          subst e1;subst e2;rw [Go.WideShapes.add_plain];exact hc j u hu) a m c2 news hl hnews (by omega) (by omega) (growslice_fits (by omega) hbytes)
      have hgr:=grown c (by omega) (some g);exact ⟨_,_,_,hr,hgr.1,hgr.2,Or.inr rfl⟩
theorem St.has {f:Fact} (S:St B w0 w fs) (h:f∈fs):f.holds B w:=by
 obtain ⟨i,hi⟩:=List.mem_iff_getElem?.1 h;exact S.all i f hi
theorem St.hblk {b:Nat} {row:Array Value} {t:TypeId} (S:St B w0 w fs) (h:Fact.blk b row t∈fs):eP w b row t:=(S.has h).2
def Fact.apart (f g:Fact):Prop:= ∀ k,f.foot=some k→g.foot≠some k
theorem Fact.apart.symm {f g:Fact} (h:f.apart g):g.apart f:=fun k h1 h2=>h k h2 h1
theorem St.iff:St B w0 w fs↔Below B w0 w∧B≤w.heap.size∧(∀ f∈fs,f.holds B w)∧fs.Pairwise Fact.apart:=by
 constructor
 ·intro S;refine ⟨S.low,S.base,fun f hf=>S.has hf,List.pairwise_iff_getElem.2 fun i j hi hj hij=>?_⟩;exact S.sep i j _ _ (by omega) (List.getElem?_eq_getElem hi) (List.getElem?_eq_getElem hj)
 rintro ⟨h1,h2,h3,h4⟩;refine ⟨h1,h2,fun i f hf=>h3 f (List.mem_of_getElem? hf),fun i j f g hij hi hj=>?_⟩;obtain ⟨hi1,rfl⟩:=List.getElem?_eq_some_iff.1 hi;obtain ⟨hj1,rfl⟩:=List.getElem?_eq_some_iff.1 hj
 rcases Nat.lt_or_gt_of_ne hij with h | h
 ·exact List.pairwise_iff_getElem.1 h4 i j hi1 hj1 h
 exact (List.pairwise_iff_getElem.1 h4 j i hj1 hi1 h).symm
theorem St.perm {gs:List Fact} (S:St B w0 w fs) (h:fs.Perm gs):St B w0 w gs:=by
 obtain ⟨h1,h2,h3,h4⟩:=St.iff.1 S;exact St.iff.2 ⟨h1,h2,fun f hf=>h3 f (h.mem_iff.2 hf),(h.pairwise_iff fun h=>h.symm).1 h4⟩
theorem St.sub {gs:List Fact} (S:St B w0 w fs) (h:gs.Sublist fs):St B w0 w gs:=by
 obtain ⟨h1,h2,h3,h4⟩:=St.iff.1 S;exact St.iff.2 ⟨h1,h2,fun f hf=>h3 f (h.mem hf),h4.sublist h⟩
theorem St.YF {e:TypeId} {s n c:Nat} {A:Option Addr} {xs:List Value} (i:Nat) (S:St B w0 w fs) (hi:fs[i]? =some (.off e s A n c xs)):mP w B e s A n c xs:=S.all i _ hi
theorem St.apl {e:TypeId} {s n c:Nat} {A:Option Addr} {xs:List Value} (i:Nat) (S:St B w0 w fs) (hi:fs[i]? =some (.off e s A n c xs)):Rd w w.heap.size s A n xs:=Rd.Zm (S.YF i hi)
theorem St.ajZ {e:TypeId} {s n c:Nat} {A:Option Addr} {xs:List Value} (i k:Nat) (S:St B w0 w fs) (hi:fs[i]? =some (.off e s A n c xs)) (hk:k≤n):
  St B w0 w (fs.set i (.off e s (if c=k then A else A.map (·.add (k*s))) (n-k) (c-k) (xs.drop (k*s)))):=by
 refine S.turn i hi S.low (Nat.le_refl _) (fun _ _ _=>rfl) ((S.YF i hi).cut hk) fun k' hk'=> .inl ?_
 cases A with
 | none=>split at hk'<;>cases hk'
 | some a=>
  show some a.block=some k'
  split at hk'
  ·exact hk'
  have:(a.add (k*s)).block=a.block:=by unfold Addr.add;split<;>rfl
  rw [←this];exact hk'
theorem St.aj0 {e:TypeId} {s n c n' c':Nat} {A A':Option Addr} {xs xs':List Value} (i:Nat) (S:St B w0 w fs) (hi:fs[i]? =some (.off e s A n c xs)) (hg:w.grownBy w' (A.map (·.block))) (ho:mP w' B e s A' n' c' xs')
  (hat:A'.map (·.block)=A.map (·.block)∨A'.map (·.block)=some w.heap.size):St B w0 w' (fs.set i (.off e s A' n' c' xs')):=by
 have h:=S.all i _ hi;refine S.turn i hi (S.low.grown hg S.base (fun k hk=>(Fact.lF h hk).1)) hg.size (fun k hk hne=>hg.block k hk (fun e=>hne e.symm)) ho (fun k hk=>?_);have hk':A'.map (·.block)=some k:=hk
 rcases hat with h1 | h1
 ·exact .inl (by rw [←hk',h1];rfl)
 rw [hk'] at h1
 cases h1;exact .inr (Nat.le_refl _)
theorem St.zH (S:St B w0 w fs) (e:TypeId) (s:Nat):St B w0 w (.off e s none 0 0 []::fs):=S.cons (mP.vk w B e s) fun k hk=>by cases hk
end
section
variable {P:Program} {N:Nat} {l:Slots} {w w' w0:World} {B m n i:Nat} {fs fs':List Fact} {ops:Array Oper} {o:Oper} {rest:List Oper} {Q:Exit→Act→World→Prop} {C:World→Prop} {listed listed':Array Bool} {v:Value} {d:Nat}
theorem VI {x y:Operand} {t e:TypeId} {z:Value} {size bytes k q c c0 Br:Nat} {A0 A:Option Addr} {xs news xs':List Value} (hi':ops[i]? =some o) (hl:listed.setIfInBounds i true=listed') (j:Nat) (S:St B w0 w fs) (hw:Wanted N ops l o true) (hd:o.dst=some d) (hN:Nat.blt d N=true)
  (ho:o.op= .call { callee:= .builtin .append,args:= #[x,y],argTypes:= #[t,t] }) (hx:ev l x=some (.slice A0 k c0)) (hy:ev l y=some (.slice A q c)) (hi:fs[j]? =some (.off e size A0 k c0 xs)) (hr:Rd w Br size A q news) (hq:0<q)
  (ht:P.underlying t=some (.slice e)) (VE:(P.info? e).map (fun i=>(i.zero,i.size,i.bytes))=some (some z,size,bytes)) (hzs:z.cells.size=size) (hsz:0<size) (h1: ∀ u∈news,u.oneCell'=true) (h63:k+q≤maxLen) (hbytes:(k+q)*bytes≤140737488355328)
  (hxs:xs++news=xs') (h: ∀ A' c' w',St B w0 w' (fs.set j (.off e size A' (k+q) c' xs'))→C w'∧wG P N ops Q C n m listed' ((d,.slice A' (k+q) c')::l) w'):wH P N ops Q C n m i listed l w:=by
 subst hxs;obtain ⟨j0,hj0,hz,hs,hb⟩:=info_parts VE;obtain ⟨bb,oo,rfl,_,hc⟩:=hr.2 hq;obtain ⟨A',c',w',hrun,h2,h3,h4⟩:=Ia (P:=P) w B t o.type e j0 z size bytes ht hj0 hz hs hb hzs hsz A0 k c0 xs (S.YF j hi) ⟨bb,oo,none⟩ q c news hr.1 (fun a u hu=>by rw [Go.WideShapes.add_plain];exact hc a u hu) h1 h63 hbytes S.base hq;exact Yx hi' hl hw hd hN (Dj (xs:=[x,y]) (vs:=[.slice A0 k c0,.slice (some ⟨bb,oo,none⟩) q c]) ho ⟨hx,hy,trivial⟩ (fun cs=>by simp [builtin,hrun,Sem.run_bind,Result.andThen])) (h A' c' w' (S.aj0 j hi h3 h2 h4))
end
end Go.Proofs.YtbffmhpkenoogaaGreatDoor
namespace Go.Proofs.YtbffmhpkenoogaaGreatDoor
open Go.ChangeShapes Go.WideShapes Go.RowKit
abbrev iV (x:Int):Value:= .int .i64 x
abbrev pV (b o:Nat):Value:= .pointer (some ⟨b,o,none⟩)
abbrev aD (b o:Nat):Option Addr:=some ⟨b,o,none⟩
inductive kL (b:Nat):List Fact→Array Value→TypeId→Prop
 | z {row:Array Value} {t:TypeId} {fs:List Fact}:kL b (.blk b row t::fs) row t
 | s {row:Array Value} {t:TypeId} {f:Fact} {fs:List Fact}:kL b fs row t→kL b (f::fs) row t
theorem kL.at_ {b:Nat} {fs:List Fact} {row:Array Value} {t:TypeId} (h:kL b fs row t): ∃ i:Nat,fs[i]? =some (Fact.blk b row t):=by
 induction h with
 | z=>exact ⟨0,rfl⟩
 | s _ ih=>obtain ⟨i,hi⟩:=ih;exact ⟨i+1,by simpa using hi⟩
inductive zT:List Fact→List Fact→Prop
 | r {fs:List Fact}:zT fs fs
 | k {f:Fact} {fs gs:List Fact}:zT fs gs→zT (f::fs) (f::gs)
 | d {f:Fact} {fs gs:List Fact}:zT fs gs→zT fs (f::gs)
 | a {fs gs:List Fact}:zT fs (fs++gs)
theorem zT.sub {fs gs:List Fact} (h:zT fs gs):fs.Sublist gs:=by
 induction h with
 | r=>exact List.Sublist.refl _
 | k _ ih=>exact ih.cons_cons _
 | d _ ih=>exact ih.cons _
 | a=>exact List.sublist_append_left _ _
theorem Qm {t:TypeId} {ds:TypeDesc} (h:Tryz.prog.underlying t=some ds:=by first | with_reducible exact Tryz.underlying3 | with_reducible exact Tryz.underlying42 | with_reducible exact Tryz.underlying40 | with_reducible exact Tryz.underlying77 | with_reducible exact Tryz.underlying43 | with_reducible exact Tryz.underlying122 | with_reducible exact Tryz.underlying79 | with_reducible exact Tryz.underlying205 | with_reducible exact Tryz.underlying164 | with_reducible exact Tryz.underlying114 | with_reducible exact Tryz.underlying240 | with_reducible exact Tryz.underlying125 | with_reducible exact Tryz.underlying75 | with_reducible exact Tryz.underlying86 | with_reducible exact Tryz.underlying115 | with_reducible exact Tryz.underlying50 | with_reducible exact Tryz.underlying51 | with_reducible exact Tryz.underlying57 | with_reducible exact Tryz.underlying127 | with_reducible exact Tryz.underlying4 | with_reducible exact Tryz.underlying26 | with_reducible exact Tryz.underlying123 | with_reducible exact Tryz.underlying169 | with_reducible exact Tryz.underlying111 | with_reducible exact Tryz.underlying33 | with_reducible exact Tryz.underlying208 | with_reducible exact Tryz.underlying176 | with_reducible exact Tryz.underlying146 | with_reducible exact Tryz.underlying31 | with_reducible exact Tryz.underlying30 | with_reducible exact Tryz.underlying34 | with_reducible exact Tryz.underlying88 | with_reducible exact Tryz.underlying38 | with_reducible exact Tryz.underlying81 | with_reducible exact Tryz.underlying35 | with_reducible exact Tryz.underlying36 | with_reducible exact Tryz.underlying135 | with_reducible exact Tryz.underlying158 | with_reducible exact Tryz.underlying239 | with_reducible exact Tryz.underlying90 | with_reducible exact Tryz.underlying126 | with_reducible exact Tryz.underlying258 | with_reducible exact Tryz.underlying5 | with_reducible exact Tryz.underlying119 | with_reducible exact Tryz.underlying118 | with_reducible exact Tryz.underlying55 | with_reducible exact Tryz.underlying54 | with_reducible exact Tryz.underlying162 | with_reducible exact Tryz.underlying73 | with_reducible exact Tryz.underlying188 | with_reducible exact Tryz.underlying117 | with_reducible exact Tryz.underlying129 | with_reducible exact Tryz.underlying28):Tryz.prog.underlying t=some ds:=h
theorem iiQ {t:TypeId} {m:Nat} (h:(Tryz.prog.info? t).map (·.size)=some m:=by first | with_reducible exact aC | with_reducible exact ajU | with_reducible exact fM | with_reducible exact jA | with_reducible exact dh | with_reducible exact aoN | with_reducible exact aoR | with_reducible exact jG | with_reducible exact jy | with_reducible exact dX | with_reducible exact LP | with_reducible exact rM | with_reducible exact jT | with_reducible exact iJ | with_reducible exact ajV | with_reducible exact aoQ | with_reducible exact aoO | with_reducible exact ajX | with_reducible exact vD | with_reducible exact nS | with_reducible exact EM | with_reducible exact qV | with_reducible exact ajW | with_reducible exact QT | with_reducible exact oC | with_reducible exact Cr | with_reducible exact aoP | with_reducible exact Zg | with_reducible exact EB | with_reducible exact Ct | with_reducible exact aoL | with_reducible exact Cu | with_reducible exact xD | with_reducible exact aoJ | with_reducible exact aoK | with_reducible exact zG | with_reducible exact Cv | with_reducible exact YA | with_reducible exact LQ | with_reducible exact LM | with_reducible exact af5 | with_reducible exact JG | with_reducible exact aoM | with_reducible exact Yz | with_reducible exact Zi | with_reducible exact Yy | with_reducible exact Zj | with_reducible exact Zh | with_reducible exact af6 | with_reducible exact Zk | with_reducible exact af7):(Tryz.prog.info? t).map (·.size)=some m:=h
section
variable {P:Program} {N:Nat} {l l':Slots} {w w' w0:World} {ops:Array Oper} {o:Oper} {rest:List Oper} {Q:Exit→Act→World→Prop} {d B:Nat} {v p:Value} {fs fs':List Fact} {ex:Exit}
section
variable {x y:Operand} {t tt s:TypeId} {ds:TypeDesc} {b k f o0 n c m:Nat} {g:Nat→Nat} {row:Array Value} {A:Option Addr} {e:TypeId}
theorem zfa (ho:o.op= .fieldAddr s x f:=by exact rfl) (hx:ev l x=some (.pointer (some ⟨b,o0,none⟩)):=by exact rfl) (hf: ∀ (b o:Nat) (w:World),(Instr.fieldAt s (.pointer (some ⟨b,o,none⟩)) f).run P w= .ok (.pointer (some ⟨b,g o,none⟩)) w:=by first | with_reducible exact adN | with_reducible exact Zd | with_reducible exact Zc | with_reducible exact aed | with_reducible exact ajm | with_reducible exact ajE | with_reducible exact ad8 | with_reducible exact ad4 | with_reducible exact ajJ | with_reducible exact adO | with_reducible exact ajF | with_reducible exact ad3 | with_reducible exact adU | with_reducible exact ad1 | with_reducible exact ajy | with_reducible exact aej | with_reducible exact ad2 | with_reducible exact adQ | with_reducible exact ajt | with_reducible exact aes | with_reducible exact ajG | with_reducible exact adR | with_reducible exact aju | with_reducible exact aea | with_reducible exact ajo | with_reducible exact adV | with_reducible exact ai7 | with_reducible exact ajH | with_reducible exact ajp | with_reducible exact adP | with_reducible exact adW | with_reducible exact aeh | with_reducible exact aex | with_reducible exact ajC | with_reducible exact ai8 | with_reducible exact aek | with_reducible exact ai5 | with_reducible exact ai6 | with_reducible exact ajL | with_reducible exact adY | with_reducible exact ajn | with_reducible exact ad7 | with_reducible exact aew | with_reducible exact ajq | with_reducible exact ajs | with_reducible exact ad5 | with_reducible exact ajr | with_reducible exact aei | with_reducible exact ajz | with_reducible exact ajQ | with_reducible exact ajx | with_reducible exact aeb | with_reducible exact aem | with_reducible exact ajS | with_reducible exact ael | with_reducible exact ajI | with_reducible exact ajA | with_reducible exact ajB | with_reducible exact ajw | with_reducible exact ajh | with_reducible exact aec | with_reducible exact aeg | with_reducible exact ad6 | with_reducible exact aen | with_reducible exact ajk | with_reducible exact ai9 | with_reducible exact ajT | with_reducible exact aey | with_reducible exact ad9 | with_reducible exact aer | with_reducible exact aaD | with_reducible exact ajR | with_reducible exact adX | with_reducible exact aji | with_reducible exact ajj | with_reducible exact ajv | with_reducible exact aee | with_reducible exact aeu | with_reducible exact aja | with_reducible exact ajd | with_reducible exact aeo | with_reducible exact Ui | with_reducible exact ajM | with_reducible exact ajO | with_reducible exact aef | with_reducible exact ajb | with_reducible exact ajc | with_reducible exact adS | with_reducible exact adT | with_reducible exact aaE | with_reducible exact adZ | with_reducible exact aje | with_reducible exact ajg | with_reducible exact ajf):gq P N l o w (.pointer (some ⟨b,g o0,none⟩)):=D8 ho hx (hf b o0 w)
theorem zld (ho:o.op= .load t x:=by exact rfl) (hx:ev l x=some (.pointer (some ⟨b,k,none⟩)):=by exact rfl) (hu:P.underlying t=some ds:=by exact Qm) (hd:ds.isRow=false:=by exact rfl) (S:St B w0 w fs:=by assumption) (hf:kL b fs row tt:=by repeat' first | exact kL.z | apply kL.s) (hk:row[k]? =some v:=by exact rfl):gq P N l o w v:=by
 obtain ⟨i,hi⟩:=hf.at_;exact aj ho hx (aA hu hd (St.cl i S hi hk))
theorem zlr (ho:o.op= .load t x:=by exact rfl) (hx:ev l x=some (.pointer (some ⟨b,0,none⟩)):=by exact rfl) (hu:P.underlying t=some ds:=by exact Qm) (hd:ds.isRow=true:=by exact rfl) (S:St B w0 w fs:=by assumption) (hf:kL b fs row tt:=by repeat' first | exact kL.z | apply kL.s) (hz:(P.info? t).map (·.size)=some m:=by exact iiQ) (hm:row.size=m:=by exact rfl):gq P N l o w (.agg row):=by
 obtain ⟨i,hi⟩:=hf.at_;exact aj ho hx (pR i S hi hu hd hz hm)
theorem zln (ho:o.op= .call { callee:= .builtin .len,args:= #[x],argTypes:= #[t] }:=by exact rfl) (hx:ev l x=some (.slice A n c):=by exact rfl) (hu:P.underlying t=some (.slice e):=by exact Qm):gq P N l o w (.int .i64 ((n:Nat):Int)):=rW (xs:=[x]) (vs:=[_]) ho ⟨hx,trivial⟩ fun _=>aoG rfl hu
theorem znl (ho:o.op= .nilCheck x:=by exact rfl) (hx:ev l x=some p:=by exact rfl) (hp:match p with | .pointer (some _)=>True | .func (.func _) _ _=>True | .func (.via ..) _ _=>True | _=>False:=by exact trivial):gq P N l o w p:=aoC ho hx hp
section
variable {kd:IntKind} {xo yo:Operand} {x y:Int}
theorem apm (ho:o.op= .binOp .lss t xo yo tt:=by exact rfl) (hx:ev l xo=some (.int kd x):=by exact rfl) (hy:ev l yo=some (.int kd y):=by exact rfl) (h:x<y:=by first | assumption | decide):gq P N l o w (.bool true):=ah ho hx hy (KN h)
theorem apn (ho:o.op= .binOp .lss t xo yo tt:=by exact rfl) (hx:ev l xo=some (.int kd x):=by exact rfl) (hy:ev l yo=some (.int kd y):=by exact rfl) (h: ¬ x<y:=by first | assumption | decide):gq P N l o w (.bool false):=ah ho hx hy (KO h)
theorem apo (ho:o.op= .binOp .leq t xo yo tt:=by exact rfl) (hx:ev l xo=some (.int kd x):=by exact rfl) (hy:ev l yo=some (.int kd y):=by exact rfl) (h:x≤y:=by first | assumption | decide):gq P N l o w (.bool true):=ah ho hx hy (Ua h)
theorem apq (ho:o.op= .binOp .leq t xo yo tt:=by exact rfl) (hx:ev l xo=some (.int kd x):=by exact rfl) (hy:ev l yo=some (.int kd y):=by exact rfl) (h: ¬ x≤y:=by first | assumption | decide):gq P N l o w (.bool false):=ah ho hx hy (Ub h)
theorem apr (ho:o.op= .binOp .gtr t xo yo tt:=by exact rfl) (hx:ev l xo=some (.int kd x):=by exact rfl) (hy:ev l yo=some (.int kd y):=by exact rfl) (h:y<x:=by first | assumption | decide):gq P N l o w (.bool true):=ah ho hx hy (Uc h)
theorem aps (ho:o.op= .binOp .gtr t xo yo tt:=by exact rfl) (hx:ev l xo=some (.int kd x):=by exact rfl) (hy:ev l yo=some (.int kd y):=by exact rfl) (h: ¬ y<x:=by first | assumption | decide):gq P N l o w (.bool false):=ah ho hx hy (Ud h)
theorem apt (ho:o.op= .binOp .geq t xo yo tt:=by exact rfl) (hx:ev l xo=some (.int kd x):=by exact rfl) (hy:ev l yo=some (.int kd y):=by exact rfl) (h:y≤x:=by first | assumption | decide):gq P N l o w (.bool true):=ah ho hx hy (Ue h)
theorem apu (ho:o.op= .binOp .geq t xo yo tt:=by exact rfl) (hx:ev l xo=some (.int kd x):=by exact rfl) (hy:ev l yo=some (.int kd y):=by exact rfl) (h: ¬ y≤x:=by first | assumption | decide):gq P N l o w (.bool false):=ah ho hx hy (Uf h)
theorem apv (ho:o.op= .binOp .eql t xo yo tt:=by exact rfl) (hx:ev l xo=some (.int kd x):=by exact rfl) (hy:ev l yo=some (.int kd y):=by exact rfl) (h:x=y:=by first | assumption | decide):gq P N l o w (.bool true):=ah ho hx hy (KP h)
theorem apw (ho:o.op= .binOp .eql t xo yo tt:=by exact rfl) (hx:ev l xo=some (.int kd x):=by exact rfl) (hy:ev l yo=some (.int kd y):=by exact rfl) (h: ¬ x=y:=by first | assumption | decide):gq P N l o w (.bool false):=ah ho hx hy (KQ h)
theorem apx (ho:o.op= .binOp .neq t xo yo tt:=by exact rfl) (hx:ev l xo=some (.int kd x):=by exact rfl) (hy:ev l yo=some (.int kd y):=by exact rfl) (h: ¬ x=y:=by first | assumption | decide):gq P N l o w (.bool true):=ah ho hx hy (KR h)
theorem apy (ho:o.op= .binOp .neq t xo yo tt:=by exact rfl) (hx:ev l xo=some (.int kd x):=by exact rfl) (hy:ev l yo=some (.int kd y):=by exact rfl) (h:x=y:=by first | assumption | decide):gq P N l o w (.bool false):=ah ho hx hy (EK h)
theorem aj1 (ho:o.op= .binOp .lss t xo yo tt:=by exact rfl) (hx:ev l xo=some (.int kd x):=by exact rfl) (hy:ev l yo=some (.int kd y):=by exact rfl) (h:x<y:=by omega):gq P N l o w (.bool true):=ah ho hx hy (KN h)
theorem aj2 (ho:o.op= .binOp .lss t xo yo tt:=by exact rfl) (hx:ev l xo=some (.int kd x):=by exact rfl) (hy:ev l yo=some (.int kd y):=by exact rfl) (h: ¬ x<y:=by omega):gq P N l o w (.bool false):=ah ho hx hy (KO h)
theorem aj3 (ho:o.op= .binOp .leq t xo yo tt:=by exact rfl) (hx:ev l xo=some (.int kd x):=by exact rfl) (hy:ev l yo=some (.int kd y):=by exact rfl) (h:x≤y:=by omega):gq P N l o w (.bool true):=ah ho hx hy (Ua h)
theorem aj4 (ho:o.op= .binOp .leq t xo yo tt:=by exact rfl) (hx:ev l xo=some (.int kd x):=by exact rfl) (hy:ev l yo=some (.int kd y):=by exact rfl) (h: ¬ x≤y:=by omega):gq P N l o w (.bool false):=ah ho hx hy (Ub h)
theorem aj5 (ho:o.op= .binOp .gtr t xo yo tt:=by exact rfl) (hx:ev l xo=some (.int kd x):=by exact rfl) (hy:ev l yo=some (.int kd y):=by exact rfl) (h:y<x:=by omega):gq P N l o w (.bool true):=ah ho hx hy (Uc h)
theorem aj6 (ho:o.op= .binOp .gtr t xo yo tt:=by exact rfl) (hx:ev l xo=some (.int kd x):=by exact rfl) (hy:ev l yo=some (.int kd y):=by exact rfl) (h: ¬ y<x:=by omega):gq P N l o w (.bool false):=ah ho hx hy (Ud h)
theorem aj7 (ho:o.op= .binOp .geq t xo yo tt:=by exact rfl) (hx:ev l xo=some (.int kd x):=by exact rfl) (hy:ev l yo=some (.int kd y):=by exact rfl) (h:y≤x:=by omega):gq P N l o w (.bool true):=ah ho hx hy (Ue h)
theorem aj8 (ho:o.op= .binOp .geq t xo yo tt:=by exact rfl) (hx:ev l xo=some (.int kd x):=by exact rfl) (hy:ev l yo=some (.int kd y):=by exact rfl) (h: ¬ y≤x:=by omega):gq P N l o w (.bool false):=ah ho hx hy (Uf h)
theorem aj9 (ho:o.op= .binOp .eql t xo yo tt:=by exact rfl) (hx:ev l xo=some (.int kd x):=by exact rfl) (hy:ev l yo=some (.int kd y):=by exact rfl) (h:x=y:=by omega):gq P N l o w (.bool true):=ah ho hx hy (KP h)
theorem akb (ho:o.op= .binOp .eql t xo yo tt:=by exact rfl) (hx:ev l xo=some (.int kd x):=by exact rfl) (hy:ev l yo=some (.int kd y):=by exact rfl) (h: ¬ x=y:=by omega):gq P N l o w (.bool false):=ah ho hx hy (KQ h)
theorem akc (ho:o.op= .binOp .neq t xo yo tt:=by exact rfl) (hx:ev l xo=some (.int kd x):=by exact rfl) (hy:ev l yo=some (.int kd y):=by exact rfl) (h: ¬ x=y:=by omega):gq P N l o w (.bool true):=ah ho hx hy (KR h)
theorem akd (ho:o.op= .binOp .neq t xo yo tt:=by exact rfl) (hx:ev l xo=some (.int kd x):=by exact rfl) (hy:ev l yo=some (.int kd y):=by exact rfl) (h:x=y:=by omega):gq P N l o w (.bool false):=ah ho hx hy (EK h)
end
theorem alS {P:Program} {w:World} {t:TypeId} {xo yo:Operand} {a b:ByteArray} {q:Bool} (h:(a.toList==b.toList)=q):(do eqGuard .eql t xo yo (.string a) (.string b);binOp .eql t (.string a) (.string b):Sem Value).run P w= .ok (.bool q) w:=by
 subst h;simp [binOp,eqGuard_at_string,go_sem,Op.stringOp]
theorem asP {xo yo:Operand} {a b:ByteArray} (ho:o.op= .binOp .eql t xo yo tt:=by exact rfl) (hx:ev l xo=some (.string a):=by exact rfl) (hy:ev l yo=some (.string b):=by exact rfl) (h:(a.toList==b.toList)=true:=by kernel_rfl):gq P N l o w (.bool true):=ah ho hx hy (alS h)
theorem asQ {xo yo:Operand} {a b:ByteArray} (ho:o.op= .binOp .eql t xo yo tt:=by exact rfl) (hx:ev l xo=some (.string a):=by exact rfl) (hy:ev l yo=some (.string b):=by exact rfl) (h:(a.toList==b.toList)=false:=by kernel_rfl):gq P N l o w (.bool false):=ah ho hx hy (alS h)
end
end
theorem asR: ∀ w,(Instr.build 30 ([]:List (Nat×Value)).toArray).run Tryz.prog w= .ok (.agg #[.int .i64 0,.int .i64 0]) w:=fun w=>by kernel_rfl
theorem asS: ∀ w,(Instr.build 33 ([]:List (Nat×Value)).toArray).run Tryz.prog w= .ok (.agg #[.int .i64 0,.int .i64 0,.int .i64 0,.int .i64 0,.int .i64 0,.int .i64 0,.int .i64 0,.int .i64 0]) w:=fun w=>by kernel_rfl
theorem asT: ∀ w,(Instr.build 38 ([]:List (Nat×Value)).toArray).run Tryz.prog w= .ok (.agg #[.int .i64 0,.bool false,.bool false,.bool false,.bool false,.bool false,.int .i64 0,.int .i64 0,.int .i64 0,.int .i64 0,.int .i64 0,.int .i64 0,.int .i64 0,.int .i64 0,.slice none 0 0,.slice none 0 0,.slice none 0 0,.int .i64 0]) w:=fun w=>by kernel_rfl
theorem asU: ∀ w,(Instr.build 42 ([]:List (Nat×Value)).toArray).run Tryz.prog w= .ok (.agg #[.int .i64 0,.int .i64 0,.int .i64 0,.int .i64 0,.int .i64 0,.slice none 0 0]) w:=fun w=>by kernel_rfl
theorem asV: ∀ w,(Instr.build 54 ([]:List (Nat×Value)).toArray).run Tryz.prog w= .ok (.agg #[.int .i64 0,.bool false,.bool false,.bool false,.bool false,.bool false,.bool false,.bool false,.bool false]) w:=fun w=>by kernel_rfl
theorem asW: ∀ w,(Instr.build 75 ([]:List (Nat×Value)).toArray).run Tryz.prog w= .ok (.agg #[.int .i64 0,.int .i64 0,.int .i64 0,.int .i64 0,.int .i64 0,.int .i64 0]) w:=fun w=>by kernel_rfl
theorem asX: ∀ w,(Instr.build 77 ([]:List (Nat×Value)).toArray).run Tryz.prog w= .ok (.agg #[.int .i64 0,.int .i64 0,.int .i64 0,.int .i64 0,.int .i64 0,.int .i64 0,.int .i64 0,.int .i64 0,.int .i64 0,.int .i64 0,.int .i64 0]) w:=fun w=>by kernel_rfl
theorem asY: ∀ w,(Instr.build 79 ([]:List (Nat×Value)).toArray).run Tryz.prog w= .ok (.agg #[.int .i64 0,.int .i64 0,.int .i64 0,.int .i64 0]) w:=fun w=>by kernel_rfl
theorem asZ: ∀ w,(Instr.build 81 ([]:List (Nat×Value)).toArray).run Tryz.prog w= .ok (.agg #[.int .i64 0,.int .i64 0,.int .i64 0,.int .i64 0,.int .i64 0,.int .i64 0,.int .i64 0]) w:=fun w=>by kernel_rfl
theorem as0: ∀ w,(Instr.build 88 ([]:List (Nat×Value)).toArray).run Tryz.prog w= .ok (.agg #[.int .i64 0,.int .i64 0]) w:=fun w=>by kernel_rfl
theorem as1: ∀ w,(Instr.build 90 ([]:List (Nat×Value)).toArray).run Tryz.prog w= .ok (.agg #[.int .i64 0,.int .i64 0,.int .i64 0,.int .i64 0]) w:=fun w=>by kernel_rfl
theorem apz: ∀ w,(Instr.build 117 ([]:List (Nat×Value)).toArray).run Tryz.prog w= .ok (.agg #[.int .i64 0,.int .i64 0]) w:=fun w=>by kernel_rfl
theorem apA: ∀ w,(Instr.build 125 ([]:List (Nat×Value)).toArray).run Tryz.prog w= .ok (.agg #[.slice none 0 0,.int .i64 0]) w:=fun w=>by kernel_rfl
theorem apB: ∀ w,(Instr.build 129 ([]:List (Nat×Value)).toArray).run Tryz.prog w= .ok (.agg #[.int .i64 0,.bool false,.slice none 0 0,.int .i64 0,.slice none 0 0,.int .i64 0,.int .i64 0,.int .i64 0,.int .i64 0,.int .i64 0,.int .i64 0,.int .i64 0,.int .i64 0,.bool false,.bool false,.bool false,.bool false,.slice none 0 0,.nilFunc,.int .i64 0]) w:=fun w=>by kernel_rfl
theorem apC: ∀ w,(Instr.build 164 ([]:List (Nat×Value)).toArray).run Tryz.prog w= .ok (.agg #[.pointer none,.int .i64 0]) w:=fun w=>by kernel_rfl
theorem apD: ∀ w,(Instr.build 169 ([]:List (Nat×Value)).toArray).run Tryz.prog w= .ok (.agg #[.int .i64 0,.int .i64 0,.int .i64 0,.int .i64 0,.int .i64 0,.int .i64 0,.int .i64 0,.int .i64 0,.int .i64 0,.int .i64 0,.int .i64 0,.int .i64 0,.int .i64 0,.slice none 0 0,.bool false,.int .i64 0,.int .i64 0,.int .i64 0,.int .i64 0,.int .i64 0,.int .i64 0,.int .i64 0,.int .i64 0]) w:=fun w=>by kernel_rfl
theorem apE: ∀ w,(Instr.build 205 ([]:List (Nat×Value)).toArray).run Tryz.prog w= .ok (.agg #[.int .i64 0,.int .i64 0,.int .i64 0,.int .i64 0,.int .i64 0,.int .i64 0,.int .i64 0,.int .i64 0,.int .i64 0,.int .i64 0]) w:=fun w=>by kernel_rfl
section
variable {P:Program} {N:Nat} {l l':Slots} {w w' w0:World} {ops:Array Oper} {o:Oper} {rest:List Oper} {Q:Exit→Act→World→Prop} {d B:Nat} {v p:Value} {fs fs':List Fact} {ex:Exit}
section
variable {x y:Operand} {t tt s:TypeId} {ds:TypeDesc} {b k f o0 n c m:Nat} {g:Nat→Nat} {row:Array Value} {A:Option Addr} {e:TypeId}
theorem ybz {row:Array Value} (ho:o.op= .build t ([]:List (Nat×Operand)).toArray:=by exact rfl) (hr: ∀ w,(Instr.build t ([]:List (Nat×Value)).toArray).run P w= .ok (.agg row) w:=by first | with_reducible exact asR | with_reducible exact asS | with_reducible exact asT | with_reducible exact asU | with_reducible exact asV | with_reducible exact asW | with_reducible exact asX | with_reducible exact asY | with_reducible exact asZ | with_reducible exact as0 | with_reducible exact as1 | with_reducible exact apz | with_reducible exact apA | with_reducible exact apB | with_reducible exact apC | with_reducible exact apD | with_reducible exact apE):gq P N l o w (.agg row):=Ba (vs:=[]) ho trivial (hr w)
theorem Zn (hy:gq P N l o w v:=by first | exact ym | exact ya | exact yx | exact yno | exact znl | exact zfa | exact zld | exact zlr | exact zln | exact ypT | exact ypF | exact ybz | exact asP | exact asQ | exact apm | exact apn | exact apo | exact apq | exact apr | exact aps | exact apt | exact apu | exact apv | exact apw | exact apx | exact apy | exact aj1 | exact aj2 | exact aj3 | exact aj4 | exact aj5 | exact aj6 | exact aj7 | exact aj8 | exact aj9 | exact akb | exact akc | exact akd):gq P N l o w v:=hy
end
inductive kW:Nat→List Bool→Nat→List Bool→Prop
 | z {l:List Bool}:kW 0 (false::l) 0 (true::l)
 | t {k i:Nat} {l l':List Bool}:kW k l i l'→kW k (true::l) (i+1) (true::l')
 | f {k i:Nat} {l l':List Bool}:kW k l i l'→kW (k+1) (false::l) (i+1) (false::l')
theorem kW.eq {k i:Nat} {l l':List Bool} (h:kW k l i l'):l.toArray.setIfInBounds i true=l'.toArray:=by
 suffices h2:l.set i true=l' by simp [h2]
 induction h with
 | z=>rfl
 | t _ ih=>rw [List.set_cons_succ,ih]
 | f _ ih=>rw [List.set_cons_succ,ih]
inductive oW:List Bool→Nat→List Bool→Prop
 | z {b:Bool} {l:List Bool}:oW (b::l) 0 (true::l)
 | s {b:Bool} {i:Nat} {l l':List Bool}:oW l i l'→oW (b::l) (i+1) (b::l')
theorem oW.eq {i:Nat} {l l':List Bool} (h:oW l i l'):l.toArray.setIfInBounds i true=l'.toArray:=by
 suffices h2:l.set i true=l' by simp [h2]
 induction h with
 | z=>rfl
 | s _ ih=>rw [List.set_cons_succ,ih]
def Step (A B:Prop):Prop:=B→A
section
variable {C:World→Prop} {Qa:Act→Prop} {j:Nat} {t:Nat} {u:Value} {b:Bool}
theorem q1Q (hw:o.guard=none:=by exact rfl) (hd:o.dst=some d:=by exact rfl) (hN:Nat.blt d N=true:=by exact rfl) (hy:gq P N l o w v:=by exact Zn):Step (wL P N ops Q (o::rest) l w) (wL P N ops Q rest ((d,v)::l) w):=fun h=>Co (wn hw) hd hN hy h
theorem q2Q (hg:o.guard=some (j,b):=by exact rfl) (hj:(ops[j]?).bind (·.dst)=some t:=by exact rfl) (hv:lk l t=some u:=by exact rfl) (hr:(yl u==some b)=true:=by exact rfl) (hd:o.dst=some d:=by exact rfl) (hN:Nat.blt d N=true:=by exact rfl) (hy:gq P N l o w v:=by exact Zn):Step (wL P N ops Q (o::rest) l w) (wL P N ops Q rest ((d,v)::l) w):=fun h=>Co (wg hg hj hv hr) hd hN hy h
theorem q3Q (hw:o.guard=none:=by exact rfl) (hd:o.dst=some d:=by exact rfl) (hN:Nat.blt d N=true:=by exact rfl) (hy: ∀ w,C w→gq P N l o w v:=by (intro w S;exact Zn)):Step (wU P N ops C Qa (o::rest) l) (wU P N ops C Qa rest ((d,v)::l)):=fun h=>JE (wn hw) hd hN hy h
theorem q4Q (hg:o.guard=some (j,b):=by exact rfl) (hj:(ops[j]?).bind (·.dst)=some t:=by exact rfl) (hv:lk l t=some u:=by exact rfl) (hr:(yl u==some b)=true:=by exact rfl) (hd:o.dst=some d:=by exact rfl) (hN:Nat.blt d N=true:=by exact rfl) (hy: ∀ w,C w→gq P N l o w v:=by (intro w S;exact Zn)):Step (wU P N ops C Qa (o::rest) l) (wU P N ops C Qa rest ((d,v)::l)):=fun h=>JE (wg hg hj hv hr) hd hN hy h
theorem St.fit {gs:List Fact} (S:St B w0 w gs) (h:zT fs gs:=by repeat' first | exact zT.r | exact zT.a | apply zT.k | apply zT.d):St B w0 w fs:=S.sub h.sub
section
variable {n m i:Nat} {listed listed':Array Bool}
theorem Um {ls ls':List Bool} (q:Nat) (hl:kW q ls i ls':=by repeat' first | exact kW.z | apply kW.t | apply kW.f) (hi:ops[i]? =some o:=by exact rfl) (hw:o.guard=none:=by exact rfl) (hd:o.dst=some d:=by exact rfl) (hN:Nat.blt d N=true:=by exact rfl) (hy: ∀ w,C w→gq P N l o w v:=by (intro w S;exact Zn)) (hS:C w:=by first | assumption | exact St.fit (by assumption)) (hs:Region.noSelect ops=true:=by kernel_rfl) (hf:Region.free .any ops ls.toArray i=true:=by kernel_rfl) (hr:(Region.ready .any ops ls.toArray).contains i=true:=by kernel_rfl):Step (wA P N ops Q C (n+1) ls.toArray l w) (wA P N ops Q C n ls'.toArray ((d,v)::l) w):=fun h=>KT hi hs hf hr hS hl.eq (wn hw) hd hN hy h
theorem Un {ls ls':List Bool} (q:Nat) (hl:kW q ls i ls':=by repeat' first | exact kW.z | apply kW.t | apply kW.f) (hi:ops[i]? =some o:=by exact rfl) (hw:o.guard=none:=by exact rfl) (hd:o.dst=some d:=by exact rfl) (hN:Nat.blt d N=true:=by exact rfl) (hy: ∀ w,C w→gq P N l o w v:=by (intro w S;exact Zn)) (hS:C w:=by first | assumption | exact St.fit (by assumption)) (hs:Region.noSelect ops=true:=by kernel_rfl) (hf:Region.free .any ops ls.toArray i=true:=by kernel_rfl) (hr:(Region.ready .any ops ls.toArray).contains i=true:=by kernel_rfl) (hnl:ls.toArray.getD n true=false:=by exact rfl) (hni:vC ops n i=true:=by kernel_rfl) (hne:Nat.beq n i=false:=by exact rfl):Step (wG P N ops Q C n (m+1) ls.toArray l w) (wG P N ops Q C n m ls'.toArray ((d,v)::l) w):=fun h=>Bc hi hs hf hr hnl hni hne hS hl.eq (wn hw) hd hN hy h
theorem Uo {ls ls':List Bool} (q:Nat) (hl:kW q ls i ls':=by repeat' first | exact kW.z | apply kW.t | apply kW.f) (hi:ops[i]? =some o:=by exact rfl) (hg:o.guard=some (j,b):=by exact rfl) (hj:(ops[j]?).bind (·.dst)=some t:=by exact rfl) (hv:lk l t=some u:=by exact rfl) (hr0:(yl u==some b)=true:=by exact rfl) (hd:o.dst=some d:=by exact rfl) (hN:Nat.blt d N=true:=by exact rfl) (hy: ∀ w,C w→gq P N l o w v:=by (intro w S;exact Zn)) (hS:C w:=by first | assumption | exact St.fit (by assumption)) (hs:Region.noSelect ops=true:=by kernel_rfl) (hf:Region.free .any ops ls.toArray i=true:=by kernel_rfl) (hr:(Region.ready .any ops ls.toArray).contains i=true:=by kernel_rfl):Step (wA P N ops Q C (n+1) ls.toArray l w) (wA P N ops Q C n ls'.toArray ((d,v)::l) w):=fun h=>KT hi hs hf hr hS hl.eq (wg hg hj hv hr0) hd hN hy h
theorem Uq {ls ls':List Bool} (q:Nat) (hl:kW q ls i ls':=by repeat' first | exact kW.z | apply kW.t | apply kW.f) (hi:ops[i]? =some o:=by exact rfl) (hg:o.guard=some (j,b):=by exact rfl) (hj:(ops[j]?).bind (·.dst)=some t:=by exact rfl) (hv:lk l t=some u:=by exact rfl) (hr0:(yl u==some b)=false:=by exact rfl) (hd:o.dst=some d:=by exact rfl) (hN:Nat.blt d N=true:=by exact rfl) (hS:C w:=by first | assumption | exact St.fit (by assumption)) (hs:Region.noSelect ops=true:=by kernel_rfl) (hf:Region.free .any ops ls.toArray i=true:=by kernel_rfl) (hr:(Region.ready .any ops ls.toArray).contains i=true:=by kernel_rfl):Step (wA P N ops Q C (n+1) ls.toArray l w) (wA P N ops Q C n ls'.toArray ((d,undef)::l) w):=fun h=>yw hi hs hf hr hS hl.eq (wg hg hj hv hr0) hd hN h
theorem Ur {ls ls':List Bool} (q:Nat) (hl:kW q ls i ls':=by repeat' first | exact kW.z | apply kW.t | apply kW.f) (hi:ops[i]? =some o:=by exact rfl) (hg:o.guard=some (j,b):=by exact rfl) (hj:(ops[j]?).bind (·.dst)=some t:=by exact rfl) (hv:lk l t=some u:=by exact rfl) (hr0:(yl u==some b)=true:=by exact rfl) (hd:o.dst=some d:=by exact rfl) (hN:Nat.blt d N=true:=by exact rfl) (hy: ∀ w,C w→gq P N l o w v:=by (intro w S;exact Zn)) (hS:C w:=by first | assumption | exact St.fit (by assumption)) (hs:Region.noSelect ops=true:=by kernel_rfl) (hf:Region.free .any ops ls.toArray i=true:=by kernel_rfl) (hr:(Region.ready .any ops ls.toArray).contains i=true:=by kernel_rfl) (hnl:ls.toArray.getD n true=false:=by exact rfl) (hni:vC ops n i=true:=by kernel_rfl) (hne:Nat.beq n i=false:=by exact rfl):Step (wG P N ops Q C n (m+1) ls.toArray l w) (wG P N ops Q C n m ls'.toArray ((d,v)::l) w):=fun h=>Bc hi hs hf hr hnl hni hne hS hl.eq (wg hg hj hv hr0) hd hN hy h
theorem EO {ls ls':List Bool} (q:Nat) (hl:kW q ls i ls':=by repeat' first | exact kW.z | apply kW.t | apply kW.f) (hi:ops[i]? =some o:=by exact rfl) (hg:o.guard=some (j,b):=by exact rfl) (hj:(ops[j]?).bind (·.dst)=some t:=by exact rfl) (hv:lk l t=some u:=by exact rfl) (hr0:(yl u==some b)=false:=by exact rfl) (hd:o.dst=some d:=by exact rfl) (hN:Nat.blt d N=true:=by exact rfl) (hS:C w:=by first | assumption | exact St.fit (by assumption)) (hs:Region.noSelect ops=true:=by kernel_rfl) (hf:Region.free .any ops ls.toArray i=true:=by kernel_rfl) (hr:(Region.ready .any ops ls.toArray).contains i=true:=by kernel_rfl) (hnl:ls.toArray.getD n true=false:=by exact rfl) (hni:vC ops n i=true:=by kernel_rfl) (hne:Nat.beq n i=false:=by exact rfl):Step (wG P N ops Q C n (m+1) ls.toArray l w) (wG P N ops Q C n m ls'.toArray ((d,undef)::l) w):=fun h=>adL hi hs hf hr hnl hni hne hS hl.eq (wg hg hj hv hr0) hd hN h
end
end
section
variable {fn:Func} {R:Ending→World→Prop} {i j k:Nat} {v1 v2 v3:Value} {ty t tt:TypeId} {b m:Nat} {row:Array Value} {ds:TypeDesc}
theorem p0Q (hr:fn.results=([]:List ResultVar).toArray:=by exact rfl):Step (wQ N (bodyPost P fn R) .ret l w) (R (.returned (qU [])) w):=fun hR=>dI (vs:=[]) hr trivial hR
theorem as2 (hr:fn.results=([]:List ResultVar).toArray:=by exact rfl):Step (wQ N (bodyPost P fn R) .normal l w) (R (.returned (qU [])) w):=fun hR=>aY (vs:=[]) hr trivial hR
theorem p1Q (hr:fn.results=[ResultVar.tmp i].toArray:=by exact rfl) (h1:lk l i=some v1:=by exact rfl):Step (wQ N (bodyPost P fn R) .ret l w) (R (.returned (qU [v1])) w):=fun hR=>dI (vs:=[v1]) hr ⟨h1,trivial⟩ hR
theorem p2Q (hr:fn.results=[ResultVar.tmp i,ResultVar.tmp j].toArray:=by exact rfl) (h1:lk l i=some v1:=by exact rfl) (h2:lk l j=some v2:=by exact rfl):Step (wQ N (bodyPost P fn R) .ret l w) (R (.returned (qU [v1,v2])) w):=fun hR=>dI (vs:=[v1,v2]) hr ⟨h1,h2,trivial⟩ hR
theorem p3Q (hr:fn.results=[ResultVar.tmp i,ResultVar.tmp j,ResultVar.tmp k].toArray:=by exact rfl) (h1:lk l i=some v1:=by exact rfl) (h2:lk l j=some v2:=by exact rfl) (h3:lk l k=some v3:=by exact rfl):Step (wQ N (bodyPost P fn R) .ret l w) (R (.returned (qU [v1,v2,v3])) w):=fun hR=>dI (vs:=[v1,v2,v3]) hr ⟨h1,h2,h3,trivial⟩ hR
theorem as3 (hr:fn.results=[ResultVar.cell i ty].toArray:=by exact rfl) (hc:lk l i=some (.pointer (some ⟨b,0,none⟩)):=by exact rfl) (S:St B w0 w fs:=by assumption) (hf:kL b fs row tt:=by repeat' first | exact kL.z | apply kL.s) (hu:P.underlying ty=some ds:=by exact Qm) (hd:ds.isRow=true:=by exact rfl) (hz:(P.info? ty).map (·.size)=some m:=by exact iiQ) (hm:row.size=m:=by exact rfl):Step (wQ N (bodyPost P fn R) .ret l w) (R (.returned (qU [.agg row])) w):=fun hR=>by
 obtain ⟨q,hq⟩:=hf.at_;exact dI (vs:=[.agg row]) hr ⟨⟨_,hc,dQ q S hq hu hd (by rw [hm];exact hz)⟩,trivial⟩ hR
theorem as4 (hr:fn.results=[ResultVar.cell i ty,ResultVar.tmp j].toArray:=by exact rfl) (h1:lk l j=some v1:=by exact rfl) (hc:lk l i=some (.pointer (some ⟨b,0,none⟩)):=by exact rfl) (S:St B w0 w fs:=by assumption) (hf:kL b fs row tt:=by repeat' first | exact kL.z | apply kL.s) (hu:P.underlying ty=some ds:=by exact Qm) (hd:ds.isRow=true:=by exact rfl) (hz:(P.info? ty).map (·.size)=some m:=by exact iiQ) (hm:row.size=m:=by exact rfl):Step (wQ N (bodyPost P fn R) .ret l w) (R (.returned (qU [.agg row,v1])) w):=fun hR=>by
 obtain ⟨q,hq⟩:=hf.at_;exact dI (vs:=[.agg row,v1]) hr ⟨⟨_,hc,dQ q S hq hu hd (by rw [hm];exact hz)⟩,h1,trivial⟩ hR
theorem as5 (hr:fn.results=[ResultVar.cell i ty,ResultVar.tmp j,ResultVar.tmp k].toArray:=by exact rfl) (h1:lk l j=some v1:=by exact rfl) (h2:lk l k=some v2:=by exact rfl) (hc:lk l i=some (.pointer (some ⟨b,0,none⟩)):=by exact rfl) (S:St B w0 w fs:=by assumption) (hf:kL b fs row tt:=by repeat' first | exact kL.z | apply kL.s) (hu:P.underlying ty=some ds:=by exact Qm) (hd:ds.isRow=true:=by exact rfl) (hz:(P.info? ty).map (·.size)=some m:=by exact iiQ) (hm:row.size=m:=by exact rfl):Step (wQ N (bodyPost P fn R) .ret l w) (R (.returned (qU [.agg row,v1,v2])) w):=fun hR=>by
 obtain ⟨q,hq⟩:=hf.at_;exact dI (vs:=[.agg row,v1,v2]) hr ⟨⟨_,hc,dQ q S hq hu hd (by rw [hm];exact hz)⟩,h1,h2,trivial⟩ hR
theorem as6 {r:Nat} (hr:fn.results=[ResultVar.cell i ty,ResultVar.tmp j,ResultVar.tmp k,ResultVar.tmp r].toArray:=by exact rfl) (h1:lk l j=some v1:=by exact rfl) (h2:lk l k=some v2:=by exact rfl) (h3:lk l r=some v3:=by exact rfl) (hc:lk l i=some (.pointer (some ⟨b,0,none⟩)):=by exact rfl) (S:St B w0 w fs:=by assumption) (hf:kL b fs row tt:=by repeat' first | exact kL.z | apply kL.s) (hu:P.underlying ty=some ds:=by exact Qm) (hd:ds.isRow=true:=by exact rfl) (hz:(P.info? ty).map (·.size)=some m:=by exact iiQ) (hm:row.size=m:=by exact rfl):Step (wQ N (bodyPost P fn R) .ret l w) (R (.returned (qU [.agg row,v1,v2,v3])) w):=fun hR=>by
 obtain ⟨q,hq⟩:=hf.at_;exact dI (vs:=[.agg row,v1,v2,v3]) hr ⟨⟨_,hc,dQ q S hq hu hd (by rw [hm];exact hz)⟩,h1,h2,h3,trivial⟩ hR
end
theorem gLQ {B:Prop} (h:Step (wL P N ops Q rest l w) B):Step (wL P N ops Q rest l w) B:=h
theorem gQQ {B:Prop} (h:Step (wQ N Q ex l w) B):Step (wQ N Q ex l w) B:=h
theorem gUQ {B:Prop} {C:World→Prop} {Qa:Act→Prop} (h:Step (wU P N ops C Qa rest l) B):Step (wU P N ops C Qa rest l) B:=h
theorem gAQ {B:Prop} {C:World→Prop} {n:Nat} {ls:List Bool} (h:Step (wA P N ops Q C (n+1) ls.toArray l w) B):Step (wA P N ops Q C (n+1) ls.toArray l w) B:=h
theorem gGQ {B:Prop} {C:World→Prop} {n m:Nat} {ls:List Bool} (h:Step (wG P N ops Q C n (m+1) ls.toArray l w) B):Step (wG P N ops Q C n (m+1) ls.toArray l w) B:=h
section
variable {K:Act→World→Prop} {x y:Code} {id:Nat} {os:List Oper} {c:Operand} {C:World→Prop} {Qa:Act→Prop} {j t n:Nat} {u:Value} {b:Bool} {listed:Array Bool} {A B:Prop}
theorem s1Q:Step (wQ N (Exit.then (y.wp P Q) Q) .normal l w) (wC P N y Q l w):=gJ
theorem s2Q:Step (wC P N (.seq x y) Q l w) (wC P N x (Exit.then (y.wp P Q) Q) l w):=aW
theorem s3Q:Step (wC P N (.region id os.toArray false) Q l w) (wL P N os.toArray Q os l w):=aO
theorem s4Q:Step (wC P N .skip Q l w) (wQ N Q .normal l w):=oU
theorem s5Q:Step (wC P N (.block id x) Q l w) (wC P N x (Exit.inBlock id Q) l w):=BH
theorem s6Q:Step (wQ N (Exit.inBlock id Q) .normal l w) (wQ N Q .normal l w):=gy
theorem s7Q:Step (wC P N .ret Q l w) (wQ N Q .ret l w):=nJ
theorem s8Q:Step (wQ N (Exit.then K Q) .ret l w) (wQ N Q .ret l w):=fZ
theorem s9Q:Step (wQ N (Exit.inBlock id Q) .ret l w) (wQ N Q .ret l w):=Sw
theorem as7:Step (wC P N (.exit id) Q l w) (wQ N Q (.exit id) l w):=adD
theorem as8:Step (wQ N (Exit.then K Q) (.exit id) l w) (wQ N Q (.exit id) l w):=LB
theorem as9:Step (wQ N (Exit.inBlock id Q) (.exit id) l w) (wQ N Q .normal l w):=O8
theorem ata:Step (wL P N ops Q [] l w) (wQ N Q .normal l w):=Y6
theorem atb (hc:ev l c=some (.bool true)):Step (wC P N (.cond c x y) Q l w) (wC P N x Q l w):=kP hc
theorem atc (hc:ev l c=some (.bool false)):Step (wC P N (.cond c x y) Q l w) (wC P N y Q l w):=kQ hc
theorem atd (hg:o.guard=some (j,b):=by exact rfl) (hj:(ops[j]?).bind (·.dst)=some t:=by exact rfl) (hv:lk l t=some u:=by exact rfl) (hr:(yl u==some b)=false:=by exact rfl) (hd:o.dst=some d:=by exact rfl) (hN:Nat.blt d N=true:=by exact rfl):Step (wL P N ops Q (o::rest) l w) (wL P N ops Q rest ((d,undef)::l) w):=T9 (wg hg hj hv hr) hd hN
theorem ate (hg:o.guard=some (j,b):=by exact rfl) (hj:(ops[j]?).bind (·.dst)=some t:=by exact rfl) (hv:lk l t=some u:=by exact rfl) (hr:(yl u==some b)=false:=by exact rfl) (hd:o.dst=some d:=by exact rfl) (hN:Nat.blt d N=true:=by exact rfl):Step (wU P N ops C Qa (o::rest) l) (wU P N ops C Qa rest ((d,undef)::l)):=adI (wg hg hj hv hr) hd hN
theorem atf (hr:Region.ready .any ops listed=[]):Step (wA P N ops Q C n listed l w) (wQ N Q .normal l w):=adJ hr
theorem alT {G:Prop} (h:G:=by first | assumption | exact St.fit (by assumption)):Step (G∧A) A:=And.intro h
end
theorem zQ {A B:Prop} (h:B) (hs:Step A B:=by first | with_reducible exact ata | ((with_reducible apply gLQ);first | exact q1Q | exact q2Q | exact atd) | with_reducible exact s1Q | with_reducible exact s2Q | with_reducible exact s3Q | with_reducible exact s4Q | with_reducible exact s5Q | with_reducible exact s6Q | with_reducible exact s7Q | with_reducible exact s8Q | with_reducible exact s9Q | with_reducible exact as7 | with_reducible exact as8 | with_reducible exact as9 | ((with_reducible refine atb ?_);exact rfl) | ((with_reducible refine atc ?_);exact rfl) | ((with_reducible apply gUQ);first | exact q3Q | exact q4Q | exact ate) | ((with_reducible apply gQQ);first | exact p1Q | exact as4 | exact p2Q | exact as3 | exact p3Q | exact as5 | exact p0Q | exact as2 | exact as6)):A:=hs h
theorem aF {A B:Prop} (h:B) (hs:Step A B:=by first | ((with_reducible apply gAQ);first | exact Um 0 | exact Uo 0 | exact Uq 0 | exact Um 1 | exact Uo 1 | exact Uq 1 | exact Um 2 | exact Uo 2 | exact Uq 2 | exact Um 3 | exact Uo 3 | exact Uq 3 | exact Um 4 | exact Uo 4 | exact Uq 4 | exact Um 5 | exact Uo 5 | exact Uq 5 | exact Um 6 | exact Uo 6 | exact Uq 6 | exact Um 7 | exact Uo 7 | exact Uq 7 | exact Um 8 | exact Uo 8 | exact Uq 8 | exact Um 9 | exact Uo 9 | exact Uq 9) | ((with_reducible apply atf);kernel_rfl) | exact alT):A:=hs h
theorem iP {A B:Prop} (h:B) (hs:Step A B:=by first | ((with_reducible apply gGQ);first | exact Un 0 | exact Ur 0 | exact EO 0 | exact Un 1 | exact Ur 1 | exact EO 1 | exact Un 2 | exact Ur 2 | exact EO 2 | exact Un 3 | exact Ur 3 | exact EO 3 | exact Un 4 | exact Ur 4 | exact EO 4 | exact Un 5 | exact Ur 5 | exact EO 5 | exact Un 6 | exact Ur 6 | exact EO 6 | exact Un 7 | exact Ur 7 | exact EO 7 | exact Un 8 | exact Ur 8 | exact EO 8 | exact Un 9 | exact Ur 9 | exact EO 9) | exact alT):A:=hs h
section
variable {t:TypeId} {row:Array Value}
def r9 (P:Program) (t:TypeId) (row:Array Value):Prop:= ∃ z,(∀ w,(zeroValue t).run P w= .ok z w)∧z.cells=row
theorem eU (S:St B w0 w fs) (hz:r9 P t row) (h: ∀ b w',St B w0 w' (.blk b row t::fs)→wL P N ops Q rest ((d,.pointer (some ⟨b,0,none⟩))::l) w') (hw:o.guard=none:=by exact rfl) (hd:o.dst=some d:=by exact rfl) (hN:Nat.blt d N=true:=by exact rfl) (ho:o.op= .alloc t:=by exact rfl):wL P N ops Q (o::rest) l w:=by
 obtain ⟨z,h1,h2⟩:=hz;exact gV (V:=fun b=> .pointer (some ⟨b,0,none⟩)) S (wn hw) hd hN (iN ho (h1 w) h2) h
theorem jk {C:World→Prop} {n:Nat} {ls ls':List Bool} (j:Nat) (hi':ops[j]? =some o) (S:St B w0 w fs) (hz:r9 P t row) (h: ∀ b w',St B w0 w' (.blk b row t::fs)→C w'∧wA P N ops Q C n ls'.toArray ((d,.pointer (some ⟨b,0,none⟩))::l) w') (hl:oW ls j ls':=by repeat' first | exact oW.z | apply oW.s) (hw:o.guard=none:=by exact rfl) (hd:o.dst=some d:=by exact rfl) (hN:Nat.blt d N=true:=by exact rfl) (ho:o.op= .alloc t:=by exact rfl):wK P N ops Q C n j ls.toArray l w:=by
 obtain ⟨z,h1,h2⟩:=hz;exact jr (V:=fun b=> .pointer (some ⟨b,0,none⟩)) hi' hl.eq S (wn hw) hd hN (iN ho (h1 w) h2) h
end
theorem zr3:r9 Tryz.prog 3 #[.int .i64 0]:=⟨_,Tryz.zeroValue3,rfl⟩
theorem Dl:r9 Tryz.prog 30 #[.int .i64 0,.int .i64 0]:=⟨_,Tryz.zeroValue30,rfl⟩
theorem ab3:r9 Tryz.prog 33 #[.int .i64 0,.int .i64 0,.int .i64 0,.int .i64 0,.int .i64 0,.int .i64 0,.int .i64 0,.int .i64 0]:=⟨_,Tryz.zeroValue33,rfl⟩
theorem ab4:r9 Tryz.prog 38 #[.int .i64 0,.bool false,.bool false,.bool false,.bool false,.bool false,.int .i64 0,.int .i64 0,.int .i64 0,.int .i64 0,.int .i64 0,.int .i64 0,.int .i64 0,.int .i64 0,.slice none 0 0,.slice none 0 0,.slice none 0 0,.int .i64 0]:=⟨_,Tryz.zeroValue38,rfl⟩
theorem dK:r9 Tryz.prog 42 #[.int .i64 0,.int .i64 0,.int .i64 0,.int .i64 0,.int .i64 0,.slice none 0 0]:=⟨_,Tryz.zeroValue42,rfl⟩
theorem ahi:r9 Tryz.prog 54 #[.int .i64 0,.bool false,.bool false,.bool false,.bool false,.bool false,.bool false,.bool false,.bool false]:=⟨_,Tryz.zeroValue54,rfl⟩
theorem alU:r9 Tryz.prog 75 #[.int .i64 0,.int .i64 0,.int .i64 0,.int .i64 0,.int .i64 0,.int .i64 0]:=⟨_,Tryz.zeroValue75,rfl⟩
theorem ab5:r9 Tryz.prog 77 #[.int .i64 0,.int .i64 0,.int .i64 0,.int .i64 0,.int .i64 0,.int .i64 0,.int .i64 0,.int .i64 0,.int .i64 0,.int .i64 0,.int .i64 0]:=⟨_,Tryz.zeroValue77,rfl⟩
theorem rz:r9 Tryz.prog 79 #[.int .i64 0,.int .i64 0,.int .i64 0,.int .i64 0]:=⟨_,Tryz.zeroValue79,rfl⟩
theorem atg:r9 Tryz.prog 81 #[.int .i64 0,.int .i64 0,.int .i64 0,.int .i64 0,.int .i64 0,.int .i64 0,.int .i64 0]:=⟨_,Tryz.zeroValue81,rfl⟩
theorem ath:r9 Tryz.prog 88 #[.int .i64 0,.int .i64 0]:=⟨_,Tryz.zeroValue88,rfl⟩
theorem alV:r9 Tryz.prog 90 #[.int .i64 0,.int .i64 0,.int .i64 0,.int .i64 0]:=⟨_,Tryz.zeroValue90,rfl⟩
theorem wZ:r9 Tryz.prog 125 #[.slice none 0 0,.int .i64 0]:=⟨_,Tryz.zeroValue125,rfl⟩
theorem apF:r9 Tryz.prog 129 #[.int .i64 0,.bool false,.slice none 0 0,.int .i64 0,.slice none 0 0,.int .i64 0,.int .i64 0,.int .i64 0,.int .i64 0,.int .i64 0,.int .i64 0,.int .i64 0,.int .i64 0,.bool false,.bool false,.bool false,.bool false,.slice none 0 0,.nilFunc,.int .i64 0]:=⟨_,Tryz.zeroValue129,rfl⟩
theorem Cw:r9 Tryz.prog 164 #[.pointer none,.int .i64 0]:=⟨_,Tryz.zeroValue164,rfl⟩
theorem YG:r9 Tryz.prog 169 #[.int .i64 0,.int .i64 0,.int .i64 0,.int .i64 0,.int .i64 0,.int .i64 0,.int .i64 0,.int .i64 0,.int .i64 0,.int .i64 0,.int .i64 0,.int .i64 0,.int .i64 0,.slice none 0 0,.bool false,.int .i64 0,.int .i64 0,.int .i64 0,.int .i64 0,.int .i64 0,.int .i64 0,.int .i64 0,.int .i64 0]:=⟨_,Tryz.zeroValue169,rfl⟩
theorem uW:r9 Tryz.prog 205 #[.int .i64 0,.int .i64 0,.int .i64 0,.int .i64 0,.int .i64 0,.int .i64 0,.int .i64 0,.int .i64 0,.int .i64 0,.int .i64 0]:=⟨_,Tryz.zeroValue205,rfl⟩
theorem apG:r9 Tryz.prog 258 #[.nilFunc]:=⟨_,Tryz.zeroValue258,rfl⟩
theorem kR {a b:Nat} (h:a≤b:=by first | assumption | exact Nat.zero_le _ | (dsimp only;omega) | (simp only [List.length_append,List.length_cons,List.length_nil,List.length_drop,List.length_take] at*;omega)):a≤b:=h
inductive Out:List Fact→Nat→Fact→List Fact→Prop
 | z {f:Fact} {fs:List Fact}:Out (f::fs) 0 f fs
 | s {f g:Fact} {fs gs:List Fact} {i:Nat}:Out fs i f gs→Out (g::fs) (i+1) f (g::gs)
theorem Out.eq {fs gs:List Fact} {i:Nat} {f:Fact} (h:Out fs i f gs):fs[i]? =some f∧fs.eraseIdx i=gs:=by
 induction h with
 | z=>exact ⟨rfl,rfl⟩
 | s _ ih=>exact ⟨by simpa using ih.1,by rw [List.eraseIdx_cons_succ,ih.2]⟩
inductive Brs:List Fact→List Nat→List Fact→Prop
 | z {fs:List Fact}:Brs fs [] fs
 | s {fs gs hs:List Fact} {i:Nat} {is:List Nat} {f:Fact}:Out fs i f gs→Brs (f::gs) is hs→Brs fs (i::is) hs
theorem St.dM {gs:List Fact} (S:St B w0 w fs) (is:List Nat) (h:Brs fs is gs:=by repeat' first | exact Brs.z | exact Out.z | apply Brs.s | apply Out.s):St B w0 w gs:=by
 induction h with
 | z=>exact S
 | s h _ ih=>
  obtain ⟨h1,h2⟩:=h.eq;have:=S.bring _ h1;rw [h2] at this;exact ih this
inductive Nz:List Fact→List Nat→List Fact→Prop
 | z {fs:List Fact}:Nz fs [] fs
 | s {fs gs hs:List Fact} {i:Nat} {is:List Nat} {f:Fact}:Out fs i f gs→Nz gs is hs→Nz fs (i::is) hs
theorem St.aR {gs:List Fact} (S:St B w0 w fs) (is:List Nat) (h:Nz fs is gs:=by repeat' first | exact Nz.z | exact Out.z | apply Nz.s | apply Out.s):St B w0 w gs:=by
 induction h with
 | z=>exact S
 | s h _ ih=>
  refine ih ?_;rw [←h.eq.2];exact S.del _
section
variable {id n m:Nat} {os:List Oper} {gs:List Fact}
theorem aN (n:Nat) (S:St B w0 w.drew gs) (is:List Nat) (h:wA P N os.toArray Q (fun w'=>St B w0 w' fs) n (List.replicate n false).toArray l w.drew) (hd:Nz gs is fs:=by repeat' first | exact Nz.z | exact Out.z | apply Nz.s | apply Out.s) (hm:P.follows .mixedOrders=true:=by exact mixed) (hn:os.length=n:=by exact rfl):wC P N (.region id os.toArray true) Q l w:=EL hm hn (by simp) h
theorem fG (m n:Nat) (S:St B w0 w.drew gs) (is:List Nat) (h:wG P N os.toArray Q (fun w'=>St B w0 w' fs) n m (List.replicate m false).toArray l w.drew) (hd:Nz gs is fs:=by repeat' first | exact Nz.z | exact Out.z | apply Nz.s | apply Out.s) (hm:P.follows .mixedOrders=true:=by exact mixed) (hn:os.length=m:=by exact rfl):wC P N (.region id os.toArray true) Q l w:=yA n hm hn (by simp) h
end
inductive zU:List Value→Nat→List Value→List Value→Prop
 | n {l:List Value}:zU l 0 [] l
 | c {x y:Value} {l cs l':List Value}:zU l 0 cs l'→zU (x::l) 0 (y::cs) (y::l')
 | s {x:Value} {i:Nat} {l cs l':List Value}:zU l i cs l'→zU (x::l) (i+1) cs (x::l')
theorem zU.spec {l cs l':List Value} {i:Nat} (h:zU l i cs l'):i+cs.length≤l.length∧l.take i++cs++l.drop (i+cs.length)=l':=by
 induction h with
 | n=>simp
 | c _ ih=>obtain ⟨h1,h2⟩:=ih;simp only [List.take_zero,List.nil_append,Nat.zero_add,List.length_cons,List.cons_append,List.drop_succ_cons] at h1 h2⊢;exact ⟨by omega,by rw [h2]⟩
 | @s x i l cs l' _ ih=>obtain ⟨h1,h2⟩:=ih;refine ⟨by simp;omega,?_⟩;rw [show i+1+cs.length=(i+cs.length)+1 by omega,List.take_succ_cons,List.drop_succ_cons,List.cons_append,List.cons_append,h2]
theorem zU.eq {l cs l':List Value} {i:Nat} (h:zU l i cs l'):bX l.toArray i cs=l'.toArray:=by
 obtain ⟨h1,h2⟩:=h.spec;apply Array.toList_inj.1;rw [fV _ _ _ (by simpa using h1)];simpa using h2
section
variable {b m off:Nat} {rw_ rw':List Value} {cs:Array Value} {t ty:TypeId} {x y:Operand}
theorem lQ (i:Nat) (S:St B w0 w fs) (hz:(P.info? ty).map (·.size)=some m) (h: ∀ w',St B w0 w' fs'→wL P N ops Q rest l w') (hw:o.guard=none:=by exact rfl) (hd:o.dst=none:=by exact rfl) (ho:o.op= .store ty x y:=by exact rfl) (hx:ev l x=some (.pointer (some ⟨b,off,none⟩)):=by exact rfl) (hy:ev l y=some v:=by exact rfl) (hi:fs[i]? =some (.blk b rw_.toArray t):=by exact rfl) (hv:v.cells=cs:=by exact rfl) (hm:cs.size=m:=by exact rfl) (h1: ∀ u∈cs.toList,u.oneCell'=true:=by exact bZ rfl) (hr:Nat.ble (off+m) rw_.toArray.size=true:=by exact rfl) (hs:zU rw_ off cs.toList rw':=by repeat' first | exact zU.n | apply zU.c | apply zU.s) (hf:iy (.blk b rw'.toArray t) fs i fs':=by repeat' first | exact iy.z | apply iy.s):wL P N ops Q (o::rest) l w:=EA i S (wn hw) hd ho hx hy hi hv hz hm h1 (Nat.le_of_ble_eq_true hr) hs.eq hf.eq h
end
section
variable {C:World→Prop} {n:Nat} {ls ls':List Bool} {row:Array Value} {t tt:TypeId} {x:Operand}
theorem gD (S:St B w0 w fs) (h: ∀ b w',St B w0 w' (.blk b row t::fs)→wL P N ops Q rest ((d,.pointer (some ⟨b,0,none⟩))::l) w') (hw:o.guard=none:=by exact rfl) (hd:o.dst=some d:=by exact rfl) (hN:Nat.blt d N=true:=by exact rfl) (ho:o.op= .box t x:=by exact rfl) (hx:ev l x=some (.agg row):=by exact rfl):wL P N ops Q (o::rest) l w:=gV (V:=fun b=> .pointer (some ⟨b,0,none⟩)) S (wn hw) hd hN (Yv ho hx rfl) h
theorem Qn (S:St B w0 w fs) (h: ∀ b w',St B w0 w' (.blk b #[v] t::fs)→wL P N ops Q rest ((d,.pointer (some ⟨b,0,none⟩))::l) w') (hw:o.guard=none:=by exact rfl) (hd:o.dst=some d:=by exact rfl) (hN:Nat.blt d N=true:=by exact rfl) (ho:o.op= .box t x:=by exact rfl) (hx:ev l x=some v:=by exact rfl) (hv:v.cells= #[v]:=by exact rfl):wL P N ops Q (o::rest) l w:=gV (V:=fun b=> .pointer (some ⟨b,0,none⟩)) S (wn hw) hd hN (Yv ho hx hv) h
theorem Zo (S:St B w0 w fs) (h: ∀ b w',St B w0 w' (.blk b row tt::fs)→wL P N ops Q rest ((d,.slice (some ⟨b,0,none⟩) 1 1)::l) w') (hw:o.guard=none:=by exact rfl) (hd:o.dst=some d:=by exact rfl) (hN:Nat.blt d N=true:=by exact rfl) (ho:o.op= .buildSlice t 1 [(0,x)].toArray:=by exact rfl) (hx:ev l x=some (.agg row):=by exact rfl) (hu:P.underlying t=some (.slice tt):=by exact Qm) (hr:(Instr.buildSlice t 1 [(0,Value.agg row)].toArray).run P w= .ok (.slice (some ⟨w.heap.size,0,none⟩) 1 1) (w.alloc (.cells row tt)):=by kernel_rfl):wL P N ops Q (o::rest) l w:=gV (V:=fun b=> .slice (some ⟨b,0,none⟩) 1 1) S (wn hw) hd hN (aK (vs:=[(0,.agg row)]) ho ⟨rfl,hx,trivial⟩ hr) h
theorem FL (S:St B w0 w fs) (h: ∀ b w',St B w0 w' (.blk b #[v] tt::fs)→wL P N ops Q rest ((d,.slice (some ⟨b,0,none⟩) 1 1)::l) w') (hw:o.guard=none:=by exact rfl) (hd:o.dst=some d:=by exact rfl) (hN:Nat.blt d N=true:=by exact rfl) (ho:o.op= .buildSlice t 1 [(0,x)].toArray:=by exact rfl) (hx:ev l x=some v:=by exact rfl) (hu:P.underlying t=some (.slice tt):=by exact Qm) (hr:(Instr.buildSlice t 1 [(0,v)].toArray).run P w= .ok (.slice (some ⟨w.heap.size,0,none⟩) 1 1) (w.alloc (.cells #[v] tt)):=by kernel_rfl):wL P N ops Q (o::rest) l w:=gV (V:=fun b=> .slice (some ⟨b,0,none⟩) 1 1) S (wn hw) hd hN (aK (vs:=[(0,v)]) ho ⟨rfl,hx,trivial⟩ hr) h
theorem Dm (j:Nat) (hi':ops[j]? =some o) (S:St B w0 w fs) (h: ∀ b w',St B w0 w' (.blk b row tt::fs)→C w'∧wA P N ops Q C n ls'.toArray ((d,.slice (some ⟨b,0,none⟩) 1 1)::l) w') (hl:oW ls j ls':=by repeat' first | exact oW.z | apply oW.s) (hw:o.guard=none:=by exact rfl) (hd:o.dst=some d:=by exact rfl) (hN:Nat.blt d N=true:=by exact rfl) (ho:o.op= .buildSlice t 1 [(0,x)].toArray:=by exact rfl) (hx:ev l x=some (.agg row):=by exact rfl) (hu:P.underlying t=some (.slice tt):=by exact Qm) (hr:(Instr.buildSlice t 1 [(0,Value.agg row)].toArray).run P w= .ok (.slice (some ⟨w.heap.size,0,none⟩) 1 1) (w.alloc (.cells row tt)):=by kernel_rfl):wK P N ops Q C n j ls.toArray l w:=jr (V:=fun b=> .slice (some ⟨b,0,none⟩) 1 1) hi' hl.eq S (wn hw) hd hN (aK (vs:=[(0,.agg row)]) ho ⟨rfl,hx,trivial⟩ hr) h
end
inductive vE (l:Slots):List Operand→List Value→Prop
 | z:vE l [] []
 | s {x:Operand} {xs:List Operand} {v:Value} {vs:List Value}:ev l x=some v→vE l xs vs→vE l (x::xs) (v::vs)
theorem vE.evs {xs:List Operand} {vs:List Value} (h:vE l xs vs):LA l xs vs:=by
 induction h with
 | z=>exact trivial
 | s h _ ih=>exact ⟨h,ih⟩
section
variable {f:FuncId} {first cap us vs:List Value} {x:Operand} {xs ys:List Operand} {ts:Array TypeId} {R:Ending→World→Prop}
theorem uF (IL: ∀ args w,(callFunc f args).run P w= .ok (.enter f args) w) (hc:Calls P f us.toArray w R) (h: ∀ e w',R e w'→ ∃ v,e= .returned v∧wL P N ops Q rest ((d,v)::l) w') (hw:o.guard=none:=by exact rfl) (hd:o.dst=some d:=by exact rfl) (hN:Nat.blt d N=true:=by exact rfl) (ho:o.op= .call { callee:= .value x,args:=xs.toArray,argTypes:=ts }:=by exact rfl) (hv:ev l x=some (.func (.func f) first.toArray cap.toArray):=by exact rfl) (hx:vE l xs vs:=by repeat' first | exact vE.z | apply vE.s rfl) (hu:first++vs++cap=us:=by exact rfl):wL P N ops Q (o::rest) l w:=EJ (wn hw) hd hN (Ul ho hv IL hx.evs hu) hc h
theorem gI {C:World→Prop} {n:Nat} {ls ls':List Bool} (j:Nat) (hi':ops[j]? =some o) (IL: ∀ args w,(callFunc f args).run P w= .ok (.enter f args) w) (hc:Calls P f us.toArray w R) (h: ∀ e w',R e w'→ ∃ v,e= .returned v∧C w'∧wA P N ops Q C n ls'.toArray ((d,v)::l) w') (hl:oW ls j ls':=by repeat' first | exact oW.z | apply oW.s) (hw:o.guard=none:=by exact rfl) (hd:o.dst=some d:=by exact rfl) (hN:Nat.blt d N=true:=by exact rfl) (ho:o.op= .call { callee:= .value x,args:=xs.toArray,argTypes:=ts }:=by exact rfl) (hv:ev l x=some (.func (.func f) first.toArray cap.toArray):=by exact rfl) (hx:vE l xs vs:=by repeat' first | exact vE.z | apply vE.s rfl) (hu:first++vs++cap=us:=by exact rfl):wK P N ops Q C n j ls.toArray l w:=uV hi' hl.eq (wn hw) hd hN (Ul ho hv IL hx.evs hu) hc h
theorem iH {C:World→Prop} {n:Nat} {ls ls':List Bool} (j:Nat) (hi':ops[j]? =some o) (IL: ∀ args w,(callFunc f args).run P w= .ok (.enter f args) w) (hc:Calls P f vs.toArray w R) (h: ∀ e w',R e w'→ ∃ v,e= .returned v∧C w'∧wA P N ops Q C n ls'.toArray ((d,v)::l) w') (hl:oW ls j ls':=by repeat' first | exact oW.z | apply oW.s) (hw:o.guard=none:=by exact rfl) (hd:o.dst=some d:=by exact rfl) (hN:Nat.blt d N=true:=by exact rfl) (ho:o.op= .call { callee:= .value (.func f),args:=xs.toArray,argTypes:=ts }:=by exact rfl) (hx:LA l xs vs:=by repeat' first | exact trivial | refine ⟨rfl,?_⟩):wK P N ops Q C n j ls.toArray l w:=uV hi' hl.eq (wn hw) hd hN (lM ho IL hx) hc h
theorem FM {g:Fn} (ho:o.op= .makeFunc g xs.toArray ys.toArray:=by exact rfl) (hx:vE l xs vs:=by repeat' first | exact vE.z | apply vE.s rfl) (hy:vE l ys us:=by repeat' first | exact vE.z | apply vE.s rfl):gq P N l o w (.func g vs.toArray us.toArray):=GX ho hx.evs hy.evs
end
inductive JH (l:Slots):List (Nat×Operand)→List (Nat×Value)→Prop
 | z:JH l [] []
 | s {i:Nat} {x:Operand} {xs:List (Nat×Operand)} {v:Value} {vs:List (Nat×Value)}:ev l x=some v→JH l xs vs→JH l ((i,x)::xs) ((i,v)::vs)
theorem JH.evp {xs:List (Nat×Operand)} {vs:List (Nat×Value)} (h:JH l xs vs):EvP l xs vs:=by
 induction h with
 | z=>exact trivial
 | s h _ ih=>exact ⟨rfl,h,ih⟩
theorem gZ {t:TypeId} {xs:List (Nat×Operand)} {vs:List (Nat×Value)} (ho:o.op= .build t xs.toArray:=by exact rfl) (hx:JH l xs vs:=by repeat' first | exact JH.z | apply JH.s rfl) (hr:(Instr.build t vs.toArray).run P w= .ok v w:=by kernel_rfl):gq P N l o w v:=Ba ho hx.evp hr
section
variable {kd:IntKind} {xo yo:Operand} {x y z:Int} {t tt:TypeId}
theorem jv (ho:o.op= .binOp .add t xo yo tt:=by exact rfl) (hx:ev l xo=some (.int .i64 x):=by exact rfl) (hy:ev l yo=some (.int .i64 y):=by exact rfl) (hz:x+y=z:=by omega) (h: -9223372036854775808≤z∧z≤9223372036854775807:=by omega):gq P N l o w (.int .i64 z):=ah ho hx hy (Yw hz h)
theorem ysu (ho:o.op= .binOp .sub t xo yo tt:=by exact rfl) (hx:ev l xo=some (.int .i64 x):=by exact rfl) (hy:ev l yo=some (.int .i64 y):=by exact rfl) (hz:x-y=z:=by omega) (h: -9223372036854775808≤z∧z≤9223372036854775807:=by omega):gq P N l o w (.int .i64 z):=ah ho hx hy (aoE hz h)
theorem gM {p e:TypeId} {b off n c s:Nat} {i:Int} {xo yo:Operand} (k:Nat) (ho:o.op= .indexAddr p xo yo:=by exact rfl) (hx:ev l xo=some (.slice (some ⟨b,off,none⟩) n c):=by exact rfl) (hy:ev l yo=some (.int kd i):=by exact rfl) (hu:P.underlying p=some (.slice e):=by exact Qm) (hz:(P.info? e).map (·.size)=some s:=by exact iiQ) (hik:i=k:=by first | rfl | omega | simp) (hk:k<n:=by first | omega | simp | decide):gq P N l o w (.pointer (some ⟨b,off+k*s,none⟩)):=bP ho hx hy (Eb k hu hz hik hk)
end
section
variable {b m off:Nat} {row row' cs:Array Value} {t ty:TypeId} {x y:Operand} {C:World→Prop} {n:Nat} {ls ls':List Bool}
theorem iU (i:Nat) (S:St B w0 w fs) (hz:(P.info? ty).map (·.size)=some m) (h: ∀ w',St B w0 w' fs'→wL P N ops Q rest l w') (hw:o.guard=none:=by exact rfl) (hd:o.dst=none:=by exact rfl) (ho:o.op= .store ty x y:=by exact rfl) (hx:ev l x=some (.pointer (some ⟨b,off,none⟩)):=by exact rfl) (hy:ev l y=some v:=by exact rfl) (hi:fs[i]? =some (.blk b row t):=by exact rfl) (hv:v.cells=cs:=by exact rfl) (hm:cs.size=m:=by exact rfl) (h1: ∀ u∈cs.toList,u.oneCell'=true:=by exact bZ rfl) (hr:Nat.ble (off+m) row.size=true:=by exact rfl) (hs:bX row off cs.toList=row':=by exact rfl) (hf:iy (.blk b row' t) fs i fs':=by repeat' first | exact iy.z | apply iy.s):wL P N ops Q (o::rest) l w:=EA i S (wn hw) hd ho hx hy hi hv hz hm h1 (Nat.le_of_ble_eq_true hr) hs hf.eq h
theorem stA (i:Nat) (S:St B w0 w fs) (hz:(P.info? ty).map (·.size)=some m) (h: ∀ w',St B w0 w' fs'→wL P N ops Q rest l w') (hw:o.guard=none:=by exact rfl) (hd:o.dst=none:=by exact rfl) (ho:o.op= .store ty x y:=by exact rfl) (hx:ev l x=some (.pointer (some ⟨b,0,none⟩)):=by exact rfl) (hy:ev l y=some v:=by exact rfl) (hi:fs[i]? =some (.blk b row t):=by exact rfl) (hv:v.cells=cs:=by exact rfl) (hm:cs.size=m:=by exact rfl) (h1: ∀ u∈cs.toList,u.oneCell'=true:=by exact bZ rfl) (hs:row.size=cs.size:=by exact rfl) (hr:Nat.ble (0+m) row.size=true:=by exact rfl) (hf:iy (.blk b cs t) fs i fs':=by repeat' first | exact iy.z | apply iy.s):wL P N ops Q (o::rest) l w:=EA i S (wn hw) hd ho hx hy hi hv hz hm h1 (Nat.le_of_ble_eq_true hr) (pU hs) hf.eq h
theorem snz (j:Nat) (hi':ops[j]? =some o) (i:Nat) (S:St B w0 w fs) (hz:(P.info? ty).map (·.size)=some m) (h: ∀ w',St B w0 w' fs'→C w'∧wA P N ops Q C n ls'.toArray l w') (hl:oW ls j ls':=by repeat' first | exact oW.z | apply oW.s) (hw:o.guard=none:=by exact rfl) (hd:o.dst=none:=by exact rfl) (ho:o.op= .store ty x y:=by exact rfl) (hx:ev l x=some (.pointer (some ⟨b,off,none⟩)):=by exact rfl) (hy:ev l y=some v:=by exact rfl) (hi:fs[i]? =some (.blk b row t):=by exact rfl) (hv:v.cells=cs:=by exact rfl) (hm:cs.size=m:=by exact rfl) (h1: ∀ u∈cs.toList,u.oneCell'=true:=by exact bZ rfl) (hr:Nat.ble (off+m) row.size=true:=by exact rfl) (hs:bX row off cs.toList=row':=by exact rfl) (hf:iy (.blk b row' t) fs i fs':=by repeat' first | exact iy.z | apply iy.s):wK P N ops Q C n j ls.toArray l w:=rY hi' hl.eq i S (wn hw) hd ho hx hy hi hv hz hm h1 (Nat.le_of_ble_eq_true hr) hs hf.eq h
theorem Zp (j:Nat) (hi':ops[j]? =some o) (i:Nat) (S:St B w0 w fs) (hz:(P.info? ty).map (·.size)=some m) (h: ∀ w',St B w0 w' fs'→C w'∧wA P N ops Q C n ls'.toArray l w') (hl:oW ls j ls':=by repeat' first | exact oW.z | apply oW.s) (hw:o.guard=none:=by exact rfl) (hd:o.dst=none:=by exact rfl) (ho:o.op= .store ty x y:=by exact rfl) (hx:ev l x=some (.pointer (some ⟨b,0,none⟩)):=by exact rfl) (hy:ev l y=some v:=by exact rfl) (hi:fs[i]? =some (.blk b row t):=by exact rfl) (hv:v.cells=cs:=by exact rfl) (hm:cs.size=m:=by exact rfl) (h1: ∀ u∈cs.toList,u.oneCell'=true:=by exact bZ rfl) (hs:row.size=cs.size:=by exact rfl) (hr:Nat.ble (0+m) row.size=true:=by exact rfl) (hf:iy (.blk b cs t) fs i fs':=by repeat' first | exact iy.z | apply iy.s):wK P N ops Q C n j ls.toArray l w:=rY hi' hl.eq i S (wn hw) hd ho hx hy hi hv hz hm h1 (Nat.le_of_ble_eq_true hr) (pU hs) hf.eq h
end
end
end Go.Proofs.YtbffmhpkenoogaaGreatDoor
namespace Go.Proofs.YtbffmhpkenoogaaGreatDoor
open Go.ChangeShapes Go.WideShapes Go.ChangeAt Go.RowKit
theorem NA {α:Type} {enc:α→List Value} {sz:Nat} (hsz: ∀ x,(enc x).length=sz): ∀ (k:Nat) (l:List α),(l.flatMap enc).drop (k*sz)=(l.drop k).flatMap enc
 | 0,l=>by simp
 | k+1,[]=>by simp
 | k+1,x::l=>by rw [List.flatMap_cons,Nat.succ_mul,Nat.add_comm,←List.drop_drop,List.drop_left' (hsz x),NA hsz k l];rfl
theorem NC {α:Type} {enc:α→List Value} {sz:Nat} (hsz: ∀ x,(enc x).length=sz): ∀ (k:Nat) (l:List α),(l.flatMap enc).take (k*sz)=(l.take k).flatMap enc
 | 0,l=>by simp
 | k+1,[]=>by simp
 | k+1,x::l=>by rw [List.flatMap_cons,Nat.succ_mul,Nat.add_comm,List.take_append,hsz x,List.take_of_length_le (by rw [hsz x];omega),Nat.add_sub_cancel_left,NC hsz k l];rfl
theorem Cx {P:Program} {t e:TypeId} {α:Type} {enc:α→List Value} {s:Nat} (hsz: ∀ x,(enc x).length=s) {A:Option Addr} {b:List α} {n c:Nat} {lo hi mx:Option Value} {l k q m c':Nat} (hu:P.underlying t=some (.slice e)) (hz:(P.info? e).map (·.size)=some s) (hb: ∀ w,(Instr.sliceBounds true n c lo hi mx).run P w= .ok (l,k,q) w)
  (hlk:l≤k) (hkn:k≤n) (hkq:k≤q) (hm:k-l=m) (hc:q-l=c'): ∃ A',(∀ w,(Instr.sliceAt t (.slice A n c) lo hi mx).run P w= .ok (.slice A' m c') w)∧(∀ (w:World) (B:Nat),Rd w B s A n (b.flatMap enc)→Rd w B s A' m (((b.drop l).take m).flatMap enc))∧ ∀ a',A'=some a'→ ∃ a,A=some a∧a.block=a'.block:=by
 subst hm;subst hc;obtain ⟨A',h1,h2,h3⟩:=yP (A:=A) hu hz hb hlk hkn hkq;refine ⟨A',h1,fun w B hR=>?_,h3⟩
 replace h2:=h2 w B _ hR
 rw [NA hsz,NC hsz] at h2;exact h2
end Go.Proofs.YtbffmhpkenoogaaGreatDoor
namespace Go.Proofs.YtbffmhpkenoogaaGreatDoor
open Go.ChangeShapes Go.WideShapes Go.RowKit
theorem Po: ∀ {v:Value} {s:Sh},Kd v s→rG v v=true
 | _,.at_ (.int k),⟨n,rfl⟩=>by simp [rG]
 | _,.at_ .bool,⟨n,rfl⟩=>by simp [rG]
 | _,.at_ .str,⟨n,rfl⟩=>by simp [rG]
 | _,.sl _ _,h=>h.elim
theorem Cy: ∀ {xs:List Value} {l:List Sh},dL Kd xs l→dH xs xs=true
 | [],[],_=>rfl
 | x::xs,s::l,h=>by
  rw [dH,Po h.1,Cy h.2];rfl
 | [],_::_,h=>h.elim
 | _::_,[],h=>h.elim
section
variable {P:Program} {w:World} {t:TypeId} {xo yo:Operand} {l:List Sh} {xs:List Value}
theorem LW (w:World) (hf:flat P 30 t=some l) (ho:Dg P 30 t=true) (ha: ∀ xs,mkV P t xs= .agg xs.toArray) (hx:dL Kd xs l):(binOp .neq t (.agg xs.toArray) (.agg xs.toArray)).run P w= .ok (.bool false) w:=by
 have h:=qA (P:=P) w hf ho ha hx hx;rw [Cy hx] at h;exact h
end
structure Ac where
 kd:Int
 nd:Int
 qu:Int
 at_:Int
 kp:Int
 ek:Int
 ep:Int
 ei:Int
 eb:Int
 eh:Int
 en:Int
def Ac.ints (x:Ac):List Int:=[x.kd,x.nd,x.qu,x.at_,x.kp,x.ek,x.ep,x.ei,x.eb,x.eh,x.en]
def IG (l:List Int):List Value:=l.map (Value.int .i64)
def Ac.cells (x:Ac):List Value:=[.int .i64 x.kd,.int .i64 x.nd,.int .i64 x.qu,.int .i64 x.at_,.int .i64 x.kp,.int .i64 x.ek,.int .i64 x.ep,.int .i64 x.ei,.int .i64 x.eb,.int .i64 x.eh,.int .i64 x.en]
theorem Ac.aaG (x:Ac):x.cells=IG x.ints:=rfl
def Ac.get (x:Ac) (i:Nat):Int:=x.ints.getD i 0
theorem Ac.cell (x:Ac) {i:Nat} (h:i<11):x.cells[i]? =some (.int .i64 (x.get i)):=by
 rw [Ac.aaG,IG,List.getElem?_map,List.getElem?_eq_getElem (by exact h)];have e:x.get i=x.ints[i]'h:=by simp only [Ac.get,List.getD_eq_getElem?_getD,List.getElem?_eq_getElem (show i<x.ints.length from h),Option.getD_some];rfl
 rw [e];rfl
def aX (kd ek:Int):Option (List (Nat×Int)):=
 if kd=1 then some [(2,3),(1,4)] else if kd=10 then some [(2,3),(1,4)] else if kd=3 then some [(1,4)] else if kd=9 then some [(1,4)]
 else if kd=8 then some [(1,4),(4,100000)] else if kd=4 then some [(3,1048576)] else if kd=5 then some [(3,1048576)] else if kd=6 then some [(3,1048576)]
 else if kd=7 then some [] else if kd=2 then (if ek=1 then some [(1,4),(2,3),(6,3),(7,1073741824),(8,1000000)] else if ek=2 then some [(1,4),(2,3)]
 else if ek=3 then some [(1,4),(2,3),(9,1048576),(10,1073741824)] else none) else none
theorem kinds (kd ek:Int):kd=1∨kd=10∨kd=3∨kd=9∨kd=8∨kd=4∨kd=5∨kd=6∨kd=7∨(kd=2∧ek=1)∨(kd=2∧ek=2)∨(kd=2∧ek=3)∨aX kd ek=none:=by
 by_cases h1:kd=1
 ·simp [h1]
 by_cases h10:kd=10
 ·simp [h10]
 by_cases h3:kd=3
 ·simp [h3]
 by_cases h9:kd=9
 ·simp [h9]
 by_cases h8:kd=8
 ·simp [h8]
 by_cases h4:kd=4
 ·simp [h4]
 by_cases h5:kd=5
 ·simp [h5]
 by_cases h6:kd=6
 ·simp [h6]
 by_cases h7:kd=7
 ·simp [h7]
 by_cases h2:kd=2
 ·by_cases e1:ek=1
  ·simp [h2,e1]
  by_cases e2:ek=2
  ·simp [h2,e2]
  by_cases e3:ek=3
  ·simp [h2,e3]
  simp [aX,h2,e1,e2,e3]
 simp [aX,h2,h1,h10,h3,h9,h8,h4,h5,h6,h7]
theorem KX {kd ek:Int} {l:List (Nat×Int)} (h:aX kd ek=some l): ∀ p∈l,1≤p.1∧p.1<11∧p.1≠5:=by
 rcases kinds kd ek with rfl | rfl | rfl | rfl | rfl | rfl | rfl | rfl | rfl | ⟨rfl,rfl⟩ | ⟨rfl,rfl⟩ | ⟨rfl,rfl⟩ | hn
 all_goals first | (rw [hn] at h;cases h;done) | (simp [aX] at h;subst h;decide)
theorem ND {kd ek:Int} {l:List (Nat×Int)} (h:aX kd ek=some l):l.length≤5:=by
 rcases kinds kd ek with rfl | rfl | rfl | rfl | rfl | rfl | rfl | rfl | rfl | ⟨rfl,rfl⟩ | ⟨rfl,rfl⟩ | ⟨rfl,rfl⟩ | hn
 all_goals first | (rw [hn] at h;cases h;done) | (simp [aX] at h;subst h;decide)
def LY (x:Ac) (p:Nat×Int):Bool:=decide (0≤x.get p.1∧x.get p.1≤p.2)
def xS (c:List Int) (l:List (Nat×Int)):List Int:=l.foldl (fun c p=>c.set p.1 0) c
def fin (x:Ac) (l:List (Nat×Int)):List Int:=(if x.kd=2 then (xS x.ints l).set 5 0 else xS x.ints l).set 0 0
def zeros:List Int:=[0,0,0,0,0,0,0,0,0,0,0]
def fT (x:Ac):Int:=match aX x.kd x.ek with
 | none=>3
 | some l=>if l.all (LY x)=true then (if fin x l=zeros then 0 else 3) else 2
def keep (x:Ac):Ac:=
 if x.kd=1 then ⟨x.kd,x.nd,x.qu,0,0,0,0,0,0,0,0⟩ else if x.kd=10 then ⟨x.kd,x.nd,x.qu,0,0,0,0,0,0,0,0⟩ else if x.kd=3 then ⟨x.kd,x.nd,0,0,0,0,0,0,0,0,0⟩ else if x.kd=9 then ⟨x.kd,x.nd,0,0,0,0,0,0,0,0,0⟩
 else if x.kd=8 then ⟨x.kd,x.nd,0,0,x.kp,0,0,0,0,0,0⟩ else if x.kd=4 then ⟨x.kd,0,0,x.at_,0,0,0,0,0,0,0⟩ else if x.kd=5 then ⟨x.kd,0,0,x.at_,0,0,0,0,0,0,0⟩ else if x.kd=6 then ⟨x.kd,0,0,x.at_,0,0,0,0,0,0,0⟩
 else if x.kd=7 then ⟨x.kd,0,0,0,0,0,0,0,0,0,0⟩ else if x.ek=1 then ⟨x.kd,x.nd,x.qu,0,0,x.ek,x.ep,x.ei,x.eb,0,0⟩ else if x.ek=2 then ⟨x.kd,x.nd,x.qu,0,0,x.ek,0,0,0,0,0⟩ else ⟨x.kd,x.nd,x.qu,0,0,x.ek,0,0,0,x.eh,x.en⟩
theorem Ga {x:Ac} {l:List (Nat×Int)} (h:aX x.kd x.ek=some l):x.ints=(keep x).ints↔fin x l=zeros:=by
 obtain ⟨kd,nd,qu,at_,kp,ek,ep,ei,eb,eh,en⟩:=x
 rcases kinds kd ek with rfl | rfl | rfl | rfl | rfl | rfl | rfl | rfl | rfl | ⟨rfl,rfl⟩ | ⟨rfl,rfl⟩ | ⟨rfl,rfl⟩ | hn
 all_goals first | (dsimp only at h;rw [hn] at h;cases h) | (simp [aX] at h;subst h;simp [Ac.ints,keep,fin,xS,zeros];try omega)
theorem aez {x y:Ac} (h:x.ints=y.ints):x=y:=by
 obtain ⟨a1,a2,a3,a4,a5,a6,a7,a8,a9,a10,a11⟩:=x;obtain ⟨b1,b2,b3,b4,b5,b6,b7,b8,b9,b10,b11⟩:=y;simpa [Ac.ints] using h
section
variable {x:Ac} {l:List (Nat×Int)}
theorem KY (h:aX x.kd x.ek=none):fT x=3:=by unfold fT;rw [h]
theorem BL (h:aX x.kd x.ek=some l) (ha: ¬ l.all (LY x)=true):fT x=2:=by unfold fT;rw [h];exact if_neg ha
theorem EP (h:aX x.kd x.ek=some l) (ha:l.all (LY x)=true) (hf: ¬ fin x l=zeros):fT x=3:=by unfold fT;rw [h];simp only [if_pos ha,if_neg hf]
theorem YH (h:aX x.kd x.ek=some l) (ha:l.all (LY x)=true) (hf:fin x l=zeros):fT x=0:=by unfold fT;rw [h];simp only [if_pos ha,if_pos hf]
theorem NH {k:Nat} {p:Nat×Int} (h:l[k]? =some p) (ha:(l.take k).all (LY x)=true) (hp:0≤x.get p.1∧x.get p.1≤p.2):(l.take (k+1)).all (LY x)=true:=by
 rw [List.take_add_one,h,List.all_append,ha];simp [LY,hp]
theorem KZ {k:Nat} {p:Nat×Int} (h:l[k]? =some p) (hp: ¬ (0≤x.get p.1∧x.get p.1≤p.2)): ¬ l.all (LY x)=true:=fun ha=>by
 have:=List.all_eq_true.1 ha p (List.mem_of_getElem? h);simp only [LY,decide_eq_true_eq] at this;exact hp this
theorem aaH {c:List Int} {k:Nat} {p:Nat×Int} (h:l[k]? =some p):(xS c (l.take k)).set p.1 0=xS c (l.take (k+1)):=by
 unfold xS;rw [List.take_add_one,h,List.foldl_append];rfl
theorem vR (c:List Int): ∀ (l:List (Nat×Int)),(xS c l).length=c.length
 | []=>rfl
 | p::l=>by
  show (xS (c.set p.1 0) l).length=_
  rw [vR _ l,List.length_set]
theorem NI: ∀ (l:List (Nat×Int)) (c:List Int),(∀ p∈l,1≤p.1)→(xS c l)[0]? =c[0]?
 | [],_,_=>rfl
 | p::l,c,h=>by
  show (xS (c.set p.1 0) l)[0]? =_
  rw [NI l _ fun q hq=>h q (List.mem_cons_of_mem _ hq),List.getElem?_set_ne (by have:=h p (List.mem_cons_self ..);omega)]
end
def nT (c:List Int):Array Value:=(IG c).toArray
theorem lS {c:List Int} (h:c.length=11):(nT c).size=11:=by simp [nT,IG,h]
theorem VJ {c:List Int} {i:Nat} {v:Int} (h:c[i]? =some v):(nT c)[i]? =some (.int .i64 v):=by simp [nT,IG,h]
theorem yQ {c:List Int} {i:Nat}:(nT c).setIfInBounds i (.int .i64 0)=nT (c.set i 0):=by
 apply Array.toList_inj.1;simp [nT,IG,Array.toList_setIfInBounds,List.map_set]
theorem aeA:flat Tryz.prog 30 77=some (List.replicate 11 (.at_ (.int .i64))):=by kernel_rfl
theorem aeB:Dg Tryz.prog 30 77=true:=by kernel_rfl
theorem akf (xs:List Value):mkV Tryz.prog 77 xs= .agg xs.toArray:=by
 unfold mkV;rw [Tryz.underlying77]
theorem Qo {a b:List Int} (ha:a.length=11) (hb:b.length=11) (w:World):(binOp .neq 77 (.agg (nT a)) (.agg (nT b))).run Tryz.prog w= .ok (.bool (!decide (a=b))) w:=by
 have k1:=vQ a;have k2:=vQ b;rw [ha] at k1;rw [hb] at k2;have h:=qA (P:=Tryz.prog) w aeA aeB akf k1 k2;rw [wW (by rw [ha,hb])] at h;exact h
end Go.Proofs.YtbffmhpkenoogaaGreatDoor
