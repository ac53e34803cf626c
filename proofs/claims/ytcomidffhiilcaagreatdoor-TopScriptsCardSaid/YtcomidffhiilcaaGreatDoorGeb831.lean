import Derived.Laws.BitsAllLaws
import Derived.Shelf.SlSortCmp.WholeK
import Derived.Shelf.SlSortCmp.NoneTotal
import Derived.Scope
import Derived.Deep.RegionWith
import Derived.Test.YtcomidffhiilcaaGreatDoorCards
import Derived.Test.YtcomidffhiilcaaGreatDoorTie
import Derived.Deep.DeepHandedRow
import Derived.Lib.LaidTab
import Derived.Test.YtcomidffhiilcaaGreatDoorGb122e
set_option maxRecDepth 100000
set_option maxHeartbeats 8000000
set_option linter.unusedSimpArgs false
set_option linter.unusedVariables false
namespace Go.Proofs.YtcomidffhiilcaaGreatDoor
section
theorem tU1 {Aa:Type} {a:Aa}:a=a/\True:=⟨rfl,trivial⟩
theorem wT {Aa Ab:Type} {a:Aa} {b:Ab}:a=a/\b=b/\True:=⟨rfl,rfl,trivial⟩
theorem EO {Aa Ab Ac:Type} {a:Aa} {b:Ab} {c:Ac}:a=a/\b=b/\c=c/\True:=⟨rfl,rfl,rfl,trivial⟩
theorem mG {Aa Ab Ac Ad:Type} {a:Aa} {b:Ab} {c:Ac} {d:Ad}:a=a/\b=b/\c=c/\d=d/\True:=⟨rfl,rfl,rfl,rfl,trivial⟩
theorem CS {Aa Ab Ac Ad Ae:Type} {a:Aa} {b:Ab} {c:Ac} {d:Ad} {e:Ae}:a=a/\b=b/\c=c/\d=d/\e=e/\True:=⟨rfl,rfl,rfl,rfl,rfl,trivial⟩
theorem rE {Aa Ab Ac Ad Ae Af:Type} {a:Aa} {b:Ab} {c:Ac} {d:Ad} {e:Ae} {f:Af}:a=a/\b=b/\c=c/\d=d/\e=e/\f=f/\True:=⟨rfl,rfl,rfl,rfl,rfl,rfl,trivial⟩
theorem CU {Aa Ab Ac Ad Ae Af Ag:Type} {a:Aa} {b:Ab} {c:Ac} {d:Ad} {e:Ae} {f:Af} {g:Ag}:a=a/\b=b/\c=c/\d=d/\e=e/\f=f/\g=g/\True:=⟨rfl,rfl,rfl,rfl,rfl,rfl,rfl,trivial⟩
theorem TQ {Aa Ab Ac Ad Ae Af Ag Ah:Type} {a:Aa} {b:Ab} {c:Ac} {d:Ad} {e:Ae} {f:Af} {g:Ag} {h:Ah}:a=a/\b=b/\c=c/\d=d/\e=e/\f=f/\g=g/\h=h/\True:=⟨rfl,rfl,rfl,rfl,rfl,rfl,rfl,rfl,trivial⟩
theorem tU9 {Aa Ab Ac Ad Ae Af Ag Ah Ai:Type} {a:Aa} {b:Ab} {c:Ac} {d:Ad} {e:Ae} {f:Af} {g:Ag} {h:Ah} {i:Ai}:a=a/\b=b/\c=c/\d=d/\e=e/\f=f/\g=g/\h=h/\i=i/\True:=⟨rfl,rfl,rfl,rfl,rfl,rfl,rfl,rfl,rfl,trivial⟩
theorem apW {Aa Ab Ac Ad Ae Af Ag Ah Ai Aj:Type} {a:Aa} {b:Ab} {c:Ac} {d:Ad} {e:Ae} {f:Af} {g:Ag} {h:Ah} {i:Ai} {j:Aj}:a=a/\b=b/\c=c/\d=d/\e=e/\f=f/\g=g/\h=h/\i=i/\j=j/\True:=⟨rfl,rfl,rfl,rfl,rfl,rfl,rfl,rfl,rfl,rfl,trivial⟩
theorem Ki (a b:Nat) (ha:a<4611686018427387904) (hb:b<4611686018427387904):bits .or .i64 (a:Int) (b:Int)=((a ||| b:Nat):Int):=by
 have hx:a ||| b<2 ^ 62:=Nat.or_lt_two_pow oQ oQ
 show IntKind.i64.wrap ((BitVec.ofInt 64 (a:Int) ||| BitVec.ofInt 64 (b:Int)).toNat:Int)=_
 rw [BitVec.toNat_or,ofInt_u64 a oQ,ofInt_u64 b oQ,IntKind.wrap_i64];omega
theorem acu (v x i:Nat) (hx:x<2 ^ i):(v*2 ^ i) ||| x=v*2 ^ i+x:=by
 rw [<-Nat.shiftLeft_eq,Nat.shiftLeft_add_eq_or_of_lt hx]
theorem or8 (v x:Int) (h0:0<=v) (h1:v<=1099511627776) (h2:0<=x) (h3:x<=255):bits .or .i64 (v*256) x=v*256+x:=by
 obtain ⟨a,rfl⟩:=Int.eq_ofNat_of_zero_le h0;obtain ⟨b,rfl⟩:=Int.eq_ofNat_of_zero_le h2;have e:((a:Int)*256)=((a*256:Nat):Int):=oQ;have h:=acu a b 8 oQ;rw [e,Ki _ _ oQ oQ];simp only [Nat.reducePow] at h;rw [h];omega
theorem awE (v x:Int) (h0:0<=v) (h1:v<=1099511627776) (h2:0<=x) (h3:x<=65535):bits .or .i64 (v*65536) x=v*65536+x:=by
 obtain ⟨a,rfl⟩:=Int.eq_ofNat_of_zero_le h0;obtain ⟨b,rfl⟩:=Int.eq_ofNat_of_zero_le h2;have e:((a:Int)*65536)=((a*65536:Nat):Int):=oQ;have h:=acu a b 16 oQ;rw [e,Ki _ _ oQ oQ];simp only [Nat.reducePow] at h;rw [h];omega
theorem awF (x:Int) (h2:0<=x) (h3:x<=255):bits .or .i64 0 x=x:=by
 have:=or8 0 x oQ oQ h2 h3;simpa using this
end
section
open ChangeShapes WideShapes ChangeAt RowKit
theorem jd {l:Slots} {x:Operand} {v:Value} (h:ev l x=some v):EvO l (some x) (some v):=h
theorem lH {l:Slots}:EvO l none none:=trivial
theorem aoe {kd:IntKind} {a b:Int} (h:a=b):some (Value.int kd a)=some (Value.int kd b):=by rw [h]
section
variable {P:Program} {w:World} {t e:TypeId} {A:Option Addr} {n c s B:Nat} {xs:List Value} {kd ke kf:IntKind}
theorem qc {i:Int} (k y:Nat) (code:BoundsCode) (hik:i=k) (hy:k<=y) (w:World):(Instr.sliceBound (.int kd i) y code).run P w= .ok k w:=by
 subst hik;have h1:(0:Int)<=k/\(k:Int)<=y:=oQ;simp [Instr.sliceBound,asIntOf,Sem.run_bind,Result.andThen,h1,hy]
theorem afW {i:Int} (l:Nat) (hi:i=l) (h:l<=n) (w:World):(Instr.sliceBounds true n c (some (.int kd i)) none none).run P w= .ok (l,n,c) w:=by
 simp [Instr.sliceBounds,Sem.run_bind,Result.andThen,qc l n _ hi h]
theorem awG {i:Int} (k:Nat) (hi:i=k) (h:k<=c) (w:World):(Instr.sliceBounds true n c none (some (.int kd i)) none).run P w= .ok (0,k,c) w:=by
 simp [Instr.sliceBounds,Sem.run_bind,Result.andThen,qc k c _ hi h]
theorem Uy {i j:Int} (l k:Nat) (hi:i=l) (hj:j=k) (hlk:l<=k) (h:k<=c) (w:World):(Instr.sliceBounds true n c (some (.int kd i)) (some (.int ke j)) none).run P w= .ok (l,k,c) w:=by
 simp [Instr.sliceBounds,Sem.run_bind,Result.andThen,qc k c _ hj h,qc l k _ hi hlk]
theorem aj1 {j m:Int} (k q:Nat) (hj:j=k) (hm:m=q) (hkq:k<=q) (h:q<=c) (w:World):(Instr.sliceBounds true n c none (some (.int ke j)) (some (.int kf m))).run P w= .ok (0,k,q) w:=by
 simp [Instr.sliceBounds,Sem.run_bind,Result.andThen,qc q c _ hm h,qc k q _ hj hkq]
theorem acv {i j m:Int} (l k q:Nat) (hi:i=l) (hj:j=k) (hm:m=q) (hlk:l<=k) (hkq:k<=q) (h:q<=c) (w:World):(Instr.sliceBounds true n c (some (.int kd i)) (some (.int ke j)) (some (.int kf m))).run P w= .ok (l,k,q) w:=by
 simp [Instr.sliceBounds,Sem.run_bind,Result.andThen,qc q c _ hm h,qc k q _ hj hkq,qc l k _ hi hlk]
theorem add_block (a:Addr) (k:Nat):a.block=(a.add k).block:=by
 unfold Addr.add
 split<;>rfl
theorem Bb {lo hi mx:Option Value} {l k q:Nat} (hu:P.underlying t=some (.slice e)) (hz:(P.info? e).map (·.size)=some s) (hb: ∀ w,(Instr.sliceBounds true n c lo hi mx).run P w= .ok (l,k,q) w) (hlk:l<=k) (hkn:k<=n) (hkq:k<=q):
  ∃ A',(∀ w,(Instr.sliceAt t (.slice A n c) lo hi mx).run P w= .ok (.slice A' (k-l) (q-l)) w)/\(∀ (w:World) (B:Nat) (xs:List Value),Rd w B s A n xs->Rd w B s A' (k-l) ((xs.drop (l*s)).take ((k-l)*s)))/\ ∀ a',A'=some a'-> ∃ a,A=some a/\a.block=a'.block:=by
 obtain ⟨z,hq,hs⟩: ∃ z,P.info? e=some z/\z.size=s:=by
  cases h:P.info? e with
  | none=>simp [h] at hz
  | some z=>exact ⟨z,rfl,by simpa [h] using hz⟩
 refine ⟨if q=l then A else A.map (·.add (l*s)),λw=>?_,?_,?_⟩
 ·have h1:(sizeOf e).run P w= .ok s w:=by simp [sizeOf,typeInfo,hq,hs,Sem.run_bind,Result.andThen]
  simp [Instr.sliceAt,Instr.slice,run_underlying hu,Sem.run_bind,Result.andThen,hb,h1]
 ·intro w B xs hR;refine ⟨?_,λhn=>?_⟩
  ·rw [List.length_take,List.length_drop,hR.1,<-Nat.sub_mul];exact Nat.min_eq_left (Nat.mul_le_mul_right _ oQ)
  obtain ⟨b,off,rfl,hb,hcell⟩:=hR.2 oQ;rw [if_neg oQ];refine ⟨b,off+l*s,?_,hb,λj u hu=>?_⟩
  ·simp only [Option.map_some,Option.some.injEq];rw [Go.WideShapes.add_plain]
  rw [Nat.add_assoc];refine hcell _ u ?_;have hj:j< (k-l)*s:=by
   have:=(List.getElem?_eq_some_iff.1 hu).1;rw [List.length_take] at this;omega
  rw [List.getElem?_take_of_lt hj,List.getElem?_drop] at hu;exact hu
 intro a' h
 split at h
 ·exact ⟨a',h,rfl⟩
 cases A with
 | none=>cases h
 | some a=>cases h;exact ⟨a,rfl,add_block a _⟩
theorem YM {lo hi mx:Option Value} {l k q:Nat} (hu:P.underlying t=some (.slice e)) (hz:(P.info? e).map (·.size)=some s) (hb: ∀ w,(Instr.sliceBounds true n c lo hi mx).run P w= .ok (l,k,q) w) (hR:Rd w B s A n xs) (hlk:l<=k) (hkn:k<=n) (hkq:k<=q):
  ∃ A',(∀ w,(Instr.sliceAt t (.slice A n c) lo hi mx).run P w= .ok (.slice A' (k-l) (q-l)) w)/\Rd w B s A' (k-l) ((xs.drop (l*s)).take ((k-l)*s))/\ ∀ a',A'=some a'-> ∃ a,A=some a/\a.block=a'.block:=by
 obtain ⟨A',h1,h2,h3⟩:=Bb (A:=A) hu hz hb hlk hkn hkq;exact ⟨A',h1,h2 _ _ _ hR,h3⟩
theorem adY {lo hi mx:Option Value} {l k q:Nat} (hu:P.underlying t=some (.slice e)) (hz:(P.info? e).map (·.size)=some s) (hb: ∀ w,(Instr.sliceBounds true n c lo hi mx).run P w= .ok (l,k,q) w) (hR:Rd w B s A n xs) (hlk:l<=k) (hkn:k<=n) (hkq:k<=q):
  ∃ A',(∀ w,(Instr.sliceAt t (.slice A n c) lo hi mx).run P w= .ok (.slice A' (k-l) (q-l)) w)/\Rd w B s A' (k-l) ((xs.drop (l*s)).take ((k-l)*s)):=by
 obtain ⟨A',h1,h2,_⟩:=YM hu hz hb hR hlk hkn hkq;exact ⟨A',h1,h2⟩
theorem aj2 {x y:Int} {ts:Array TypeId} {ty:TypeId} {cs:Array Bool}:(builtin .min ts ty cs #[.int kd x,.int kd y]).run P w= .ok (.value (.int kd (min x y))) w:=by
 have:(if y<x then y else x)=min x y:=by split<;>omega
 simp [builtin,run_min_int2,Sem.run_bind,Result.andThen,this]
theorem TR {x y:Nat} {ts:Array TypeId} {ty:TypeId} {cs:Array Bool}:(builtin .min ts ty cs #[.int kd x,.int kd y]).run P w= .ok (.value (.int kd ((min x y:Nat):Int))) w:=by
 rw [aj2,show min (x:Int) (y:Int)=((min x y:Nat):Int) by omega]
theorem Cn {op:BinOp} {xo yo:Operand} {a b:Array Value} {v:Value} (hg:P.eqGuardType P.depth t=false) (h:(binOp op t (.agg a) (.agg b)).run P w= .ok v w):(do eqGuard op t xo yo (.agg a) (.agg b);binOp op t (.agg a) (.agg b):Sem Value).run P w= .ok v w:=by
 have h1:(eqGuard op t xo yo (.agg a) (.agg b)).run P w= .ok () w:=by
  have hp: ∀ w,(program:Sem Program).run P w= .ok P w:=λ_=>rfl;unfold eqGuard
  cases op<;>first | rfl | simp [hp,Sem.run_bind,Result.andThen,hg]
 rw [Sem.run_bind,h1];exact h
theorem YN {s t:TypeId} {k:IntKind} {x:Int} (hs:(P.underlying s).isSome=true) (ht:P.underlying t=some (.int k)) {z:Int} (hz:k.wrap x=z):(convert s t (.int kd x)).run P w= .ok (.int k z) w:=by
 obtain ⟨ds,hs⟩:=Option.isSome_iff_exists.1 hs;subst hz;simp [convert,Sem.run_bind,run_underlying hs,run_underlying ht,Result.andThen,Conv.intToInt]
theorem u8_in (a:UInt8):0<=(a.toNat:Int)/\(a.toNat:Int)<=255:=by
 have:=a.toNat_lt;omega
theorem Ou {s t:TypeId} {a:UInt8} (hs:P.underlying s=some (.int .u8)) (ht:P.underlying t=some (.int .i64)):(convert s t (.int .u8 (a.toNat:Int))).run P w= .ok (iV (a.toNat:Int)) w:=
 YN (by rw [hs];rfl) ht (wrap64_in (by have:=u8_in a;omega) (by have:=u8_in a;omega))
theorem acw {xo yo:Operand} {x z:Int} (hz:x*256=z) (h0:0<=x) (h1:x<=1099511627776):(do eqGuard .shl t xo yo (iV x) (.int .u64 8);binOp .shl t (iV x) (.int .u64 8):Sem Value).run P w= .ok (iV z) w:=by
 subst hz;have:IntKind.i64.wrap (x*256)=x*256:=wrap64_in oQ oQ;simp [binOp,eqGuard_shl,shift_shl_i64,this]
theorem atB {xo yo:Operand} {v x z:Int} (hz:v*256+x=z) (h0:0<=v) (h1:v<=1099511627776) (h2:0<=x) (h3:x<=255):(do eqGuard .or t xo yo (iV (v*256)) (iV x);binOp .or t (iV (v*256)) (iV x):Sem Value).run P w= .ok (iV z) w:=by
 subst hz;have:=or8 v x h0 h1 h2 h3;simp [binOp,eqGuard_or,intBits_or,this]
theorem MJ {b:List UInt8} {lo hi mx:Option Value} {l k q m c':Nat} (hu:P.underlying t=some (.slice e)) (hz:(P.info? e).map (·.size)=some 1) (hb: ∀ w,(Instr.sliceBounds true b.length c lo hi mx).run P w= .ok (l,k,q) w) (hR:Rd w B 1 A b.length (byteCells b))
  (hlk:l<=k) (hkn:k<=b.length) (hkq:k<=q) (hm:k-l=m) (hc:q-l=c'): ∃ A',(∀ w,(Instr.sliceAt t (.slice A b.length c) lo hi mx).run P w= .ok (.slice A' m c') w)/\Rd w B 1 A' m (byteCells ((b.drop l).take m)):=by
 subst hm;subst hc;obtain ⟨A',h1,h2⟩:=adY hu hz hb hR hlk hkn hkq;refine ⟨A',h1,?_⟩;rw [Nat.mul_one,Nat.mul_one] at h2;simpa [byteCells,List.map_drop,List.map_take] using h2
theorem aic {b:List UInt8} {lo hi mx:Option Value} {l k q m c':Nat} (hu:P.underlying t=some (.slice e)) (hz:(P.info? e).map (·.size)=some 1) (hb: ∀ w,(Instr.sliceBounds true b.length c lo hi mx).run P w= .ok (l,k,q) w)
  (hlk:l<=k) (hkn:k<=b.length) (hkq:k<=q) (hm:k-l=m) (hc:q-l=c'): ∃ A',(∀ w,(Instr.sliceAt t (.slice A b.length c) lo hi mx).run P w= .ok (.slice A' m c') w)/\(∀ (w:World) (B:Nat),Rd w B 1 A b.length (byteCells b)->Rd w B 1 A' m (byteCells ((b.drop l).take m)))/\ ∀ a',A'=some a'-> ∃ a,A=some a/\a.block=a'.block:=by
 subst hm;subst hc;obtain ⟨A',h1,h2,h3⟩:=Bb (A:=A) hu hz hb hlk hkn hkq;refine ⟨A',h1,λw B hR=>?_,h3⟩
 replace h2:=h2 w B _ hR
 rw [Nat.mul_one,Nat.mul_one] at h2;simpa [byteCells,List.map_drop,List.map_take] using h2
end
section
variable {P:Program} {N:Nat} {l:Slots} {o:Oper} {w w' w0:World} {B:Nat} {fs:List Fact}
theorem Xw {f:FuncId} {first cap us:List Value} {x:Operand} {xs:List Operand} {ts:Array TypeId} {vs:List Value} (ho:o.op= .call { callee:= .value x,args:=xs.toArray,argTypes:=ts }) (hv:ev l x=some (.func (.func f) first.toArray cap.toArray))
  (I5: ∀ args w,(callFunc f args).run P w= .ok (.enter f args) w) (hx:Mr l xs vs) (hu:first++vs++cap=us):Enter P N l o w f us:=λa F=>by
 subst hu;have h1:=F.evs hx;unfold execOp;simp only [ho,resolve,F.ev hv,Deferred.ofValue,invoke,Sem.run_bind,Sem.run_pure,Result.andThen_ok,List.map_toArray,h1];simp [I5]
theorem Dc {f:Fn} {xs ys:List Operand} {vs us:List Value} (ho:o.op= .makeFunc f xs.toArray ys.toArray) (hx:Mr l xs vs) (hy:Mr l ys us):iP P N l o w (.func f vs.toArray us.toArray):=λa F=>by
 have h1:=F.evs hx;have h2:=F.evs hy;unfold execOp;simp only [ho,List.map_toArray,h1,h2];rfl
theorem acy {b off s n:Nat} {row:Array Value} {t:TypeId} {xs:List Value} (i:Nat) (S:St B w0 w fs) (hi:fs[i]? =some (.blk b row t)) (hl:xs.length=n*s) (hx: ∀ (j:Nat) (u:Value),xs[j]? =some u->row[off+j]? =some u):Rd w w.heap.size s (some ⟨b,off,none⟩) n xs:=
 ⟨hl,λ_=>⟨b,off,rfl,S.lt i hi,λj u hu=>S.cl i hi (hx j u hu)⟩⟩
theorem D9 {base:Nat} {e:TypeId} {size n c:Nat} {A:Option Addr} {xs:List Value} (h:w.ownsRow base e size (.slice A n c) n xs) (hn:0<n): ∃ g,A=some ⟨g,0,none⟩:=by
 rcases h.2 with ⟨_,h0⟩ | ⟨g,cap,cur,hv,_⟩
 ·omega
 exact ⟨g,by injection hv⟩
theorem St.abX {e e':TypeId} {s s':Nat} {g n c n' c':Nat} {xs xs':List Value} (i:Nat) (S:St B w0 w fs) (hi:fs[i]? =some (.own e s (.slice (some ⟨g,0,none⟩) n c) n xs)) (hu:tT w g w') (ho:w'.ownsRow B e' s' (.slice (some ⟨g,0,none⟩) n' c') n' xs'):
  St B w0 w' (fs.set i (.own e' s' (.slice (some ⟨g,0,none⟩) n' c') n' xs')):=
 S.turn i hi (hu.next S.low (Fact.mK (S.all i _ hi) rfl).1) (Nat.le_of_eq hu.size.symm) (λk _ hk=>hu.block k (λe=>hk (by rw [e];rfl))) ho (λk hk=> .inl hk)
theorem JE {α:Type} {enc:α->List Value} {sz:Nat} (hsz: ∀ x,(enc x).length=sz): ∀ (k:Nat) (l:List α),(l.flatMap enc).take (k*sz)++(l.flatMap enc).drop ((k+1)*sz)=(l.eraseIdx k).flatMap enc
 | 0,[]=>by simp
 | 0,x::l=>by rw [List.flatMap_cons,Nat.zero_mul,List.take_zero,List.nil_append,Nat.zero_add,Nat.one_mul,List.drop_left' (hsz x)];rfl
 | k+1,[]=>by simp
 | k+1,x::l=>by
  rw [List.eraseIdx_cons_succ,List.flatMap_cons,List.flatMap_cons,<-JE hsz k l,Nat.succ_mul k,Nat.succ_mul (k+1),Nat.add_comm _ sz,Nat.add_comm _ sz,List.take_append,List.drop_append,hsz x];rw [List.take_of_length_le (by rw [hsz x];omega),List.drop_of_length_le (by rw [hsz x];omega),Nat.add_sub_cancel_left,Nat.add_sub_cancel_left,List.nil_append,List.append_assoc,Nat.succ_mul k,Nat.add_comm sz]
end
theorem aB {B:Nat} {w0 w:World} {fs:List Fact} {s:Nat} (S:St B w0 w fs):St B w0 w (.bI s none 0 []::fs):=S.cons ⟨Rd.none_,λa h=>by cases h⟩ λk hk=>by cases hk
end
section
open ChangeShapes WideShapes RowKit
def atC:List Sh:=[.at_ (.int .i64),.at_ .bool,.at_ .bool,.at_ .bool,.at_ .bool,.at_ .bool,.at_ .bool,.at_ .bool,.at_ .bool]
theorem lK.kd (a:lK):dW Kd a.cells atC:=⟨⟨_,rfl⟩,⟨_,rfl⟩,⟨_,rfl⟩,⟨_,rfl⟩,⟨_,rfl⟩,⟨_,rfl⟩,⟨_,rfl⟩,⟨_,rfl⟩,⟨_,rfl⟩,trivial⟩
end
section
open ChangeShapes WideShapes ChangeAt RowKit
open Go.Sort (flatK HoldsK get_flatK size_flatK)
section
variable {α:Type} [Inhabited α] {enc:α->List Value} {k:Nat}
theorem Xx (hk: ∀ x,(enc x).length=k) (d:Array α) {t:Nat} (h:t<d.size*k):(d.toList.flatMap enc)[t]? =some ((flatK enc k d)[t]!):=by
 have hk0:0<k:=by
  rcases Nat.eq_zero_or_pos k with h0 | h0
  ·subst h0;omega
  exact h0
 have h1:t / k<d.size:=Nat.div_lt_of_lt_mul (by rw [Nat.mul_comm];exact h);have h2:t % k<k:=Nat.mod_lt _ hk0;rw [get_flatK enc k d t h];have h3:d.toList[t / k]? =some d[t / k]! :=by rw [getElem!_pos d (t / k) h1];simp [h1]
 have h4:(enc d[t / k]!)[t % k]? =some (enc d[t / k]!)[t % k]! :=by
  have:t % k< (enc d[t / k]!).length:=by rw [hk];exact h2
  rw [getElem!_pos (enc d[t / k]!) (t % k) this];exact List.getElem?_eq_getElem this
 have h5:=bU hk h3 h4;rw [Nat.mul_comm,Nat.div_add_mod] at h5;exact h5
theorem YO {w:World} {B g n c e:Nat} {l:List α} (hk: ∀ x,(enc x).length=k) (ho:w.ownsRow B e k (.slice (some ⟨g,0,none⟩) n c) n (l.flatMap enc)) (hl:l.length=n):HoldsK enc k w g 0 l.toArray:=by
 obtain ⟨h1,h2⟩:=ho;intro j hj;rw [size_flatK] at hj
 rcases h2 with ⟨h2,_⟩ | ⟨g',cap,cur,hv,hb,hh,hnc,hcm,hsz,htk⟩
 ·cases h2
 injection hv with hv1
 injection hv1 with hv1
 injection hv1 with hv1
 subst hv1;have h3:=Xx hk l.toArray hj;rw [show l.toArray.toList=l by simp,<-htk,List.getElem?_take_of_lt (by simp at hj;rw [hl] at hj;exact hj)] at h3;refine ⟨?_,by simp [World.frozen?,hh]⟩;simp only [Nat.zero_add,World.cell?,hh];simpa using h3
theorem VR {w:World} {B g n c e m:Nat} {l:List α} {d':Array α} {os:Array Obj} (hk: ∀ x,(enc x).length=k) (ho:w.ownsRow B e k (.slice (some ⟨g,0,none⟩) n c) n (l.flatMap enc)) (hd:d'.size=n):
  (sortWorldK enc k w g 0 m d' os).ownsRow B e k (.slice (some ⟨g,0,none⟩) n c) n (d'.toList.flatMap enc)/\w.grownBy (sortWorldK enc k w g 0 m d' os) (some g):=by
 obtain ⟨h1,h2⟩:=ho
 rcases h2 with ⟨h2,_⟩ | ⟨g',cap,cur,hv,hb,hh,hnc,hcm,hsz,htk⟩
 ·cases h2
 have e1:g=g':=by injection hv with hv1;injection hv1 with hv1;injection hv1
 subst e1;have e2:c=cap:=by injection hv
 subst e2;have hg:g<w.heap.size:=(Array.getElem?_eq_some_iff.1 hh).1;have hW:(sortWorldK enc k w g 0 m d' os).heap=(w.heap.modify g (Sort.onCells (Sort.putCells id 0 (flatK enc k d'))))++os:=rfl;have hlen:(d'.toList.flatMap enc).length=n*k:=by rw [iE hk,Array.length_toList,hd]
 refine ⟨⟨hlen,.inr ⟨g,c,Sort.putCells id 0 (flatK enc k d') cur,rfl,hb,?_,hnc,hcm,?_,?_⟩⟩,⟨rfl,rfl,rfl,?_,λj hj hne=>?_⟩⟩
 ·rw [hW,Array.getElem?_append_left (by simpa using hg),Array.getElem?_modify,if_pos rfl,hh];rfl
 ·simp [Sort.putCells,hsz]
 ·refine List.ext_getElem? λt=>?_;by_cases ht:t<n*k
  ·rw [List.getElem?_take_of_lt ht,Xx hk d' (by rw [hd];exact ht)];have htc:t<cur.size:=by rw [hsz];exact Nat.lt_of_lt_of_le ht (Nat.mul_le_mul_right _ hnc)
   simp [Sort.putCells,htc,hd,ht]
  rw [List.getElem?_eq_none (by rw [List.length_take];omega),List.getElem?_eq_none (by rw [hlen];omega)]
 ·rw [hW];simp
 rw [hW,Array.getElem?_append_left (by simpa using hj),Array.getElem?_modify,if_neg (λh=>hne (by rw [h]))]
end
end
section
open ChangeShapes WideShapes RowKit
class yU (α:Type) where
 size:Nat
 ints:α->List Int
 of:List Int->α
 pos:0<size
 len: ∀ a,(ints a).length=size
 inv: ∀ xs:List Int,xs.length=size->ints (of xs)=xs
section
variable {α:Type} [yU α]
open yU
def rF (a:α):List Value:=(ints a).map (Value.int .i64)
def jZ (l:List α):List Value:=l.flatMap rF
theorem wh (a:α):(rF a).length=size α:=by simp [rF,len]
theorem tL (l:List α):(jZ l).length=l.length*size α:=by
 induction l with
 | nil=>simp [jZ]
 | cons e l ih=>simp only [jZ,List.flatMap_cons,List.length_append,List.length_cons] at*;rw [ih,wh,Nat.succ_mul];omega
theorem EP (l:List α): ∀ u∈jZ l,u.oneCell'=true:=by
 intro u hu;simp only [jZ,rF,List.mem_flatMap,List.mem_map] at hu;obtain ⟨e,_,x,_,rfl⟩:=hu;rfl
theorem ER {l:List α} {k j:Nat} {a:α} {v:Int} (h:l[k]? =some a) (hj:(ints a)[j]? =some v):(jZ l)[k*size α+j]? =some (.int .i64 v):=by
 induction l generalizing k with
 | nil=>simp at h
 | cons x l ih=>
  have e1:jZ (x::l)=rF x++jZ l:=by simp [jZ]
  have hx:=wh x;have hjl:j<size α:=by
   have:=(List.getElem?_eq_some_iff.1 hj).1;rw [len] at this;exact this
  rw [e1]
  cases k with
  | zero=>
   simp at h;subst h;rw [Nat.zero_mul,Nat.zero_add,List.getElem?_append_left oQ];simp [rF,hj]
  | succ k=>
   rw [List.getElem?_append_right (by rw [Nat.succ_mul];omega),hx,show (k+1)*size α+j-size α=k*size α+j by rw [Nat.succ_mul];omega];exact ih (by simpa using h)
variable {w:World} {B n:Nat} {A:Option Addr} {l:List α}
theorem Rd.Ov (h:Rd w B (size α) A n (jZ l)):l.length=n:=by
 have:=h.1;rw [tL] at this;exact Nat.eq_of_mul_eq_mul_right (pos (α:=α)) this
theorem Rd.aof {k:Nat} (h:Rd w B (size α) A n (jZ l)) (hk:k<n): ∃ b off a,A=some ⟨b,off,none⟩/\b<B/\l[k]? =some a/\
  ∀ j v,(ints a)[j]? =some v->w.cell? ⟨b,off+(k*size α+j),none⟩=some (.int .i64 v):=by
 have hl:=h.Ov;obtain ⟨b,off,e,hb,hc⟩:=h.2 oQ;have he:l[k]? =some (l[k]'oQ):=List.getElem?_eq_getElem oQ;exact ⟨b,off,_,e,hb,he,λj v hj=>hc _ _ (ER he hj)⟩
theorem YP {cs:List Value} {m:Nat} (h:dW Uu cs (List.replicate m (.int .i64))): ∃ xs:List Int,xs.length=m/\cs=xs.map (Value.int .i64):=by
 induction m generalizing cs with
 | zero=>exact ⟨[],rfl,dW.wR h⟩
 | succ m ih=>
  obtain ⟨a,l1,rfl,⟨x,rfl,_⟩,h3⟩:=dW.yD h;obtain ⟨xs,h4,rfl⟩:=ih h3;exact ⟨x::xs,by simp [h4],rfl⟩
theorem YQ {W:World} {v:Value} {b:Nat} (h:Fits W v (.sl b (List.replicate (size α) (.int .i64)))):
  ∃ A n c,∃ l:List α,v= .slice A n c/\Rd W W.heap.size (size α) A n (jZ l)/\n<=c/\c<=maxLen/\c*b<=reachBytes/\(A=none->c=0):=by
 have hp:=pos (α:=α)
 rcases h with rfl | ⟨ad,n,c,rfl,hn,hc,hr,hcell⟩
 ·exact ⟨none,0,0,[],rfl,⟨by simp [jZ],λh=>absurd h oQ⟩,Nat.le_refl _,Nat.zero_le _,by simp,λ_=>rfl⟩
 have hex: ∀ i,i<n-> ∃ x:α,ad.block<W.heap.size/\ ∀ j u,(rF x)[j]? =some u->W.cell? (ad.add (i*size α+j))=some u:=by
  intro i hi;obtain ⟨cs,h2,hb,hcs⟩:=hcell i hi;obtain ⟨xs,hx,rfl⟩:=YP h2;rw [List.length_replicate] at hb hcs;refine ⟨of xs,hb hp,λj u hj=>hcs j u ?_⟩;rw [rF,inv xs hx] at hj;exact hj
 have hd: ∃ x:α,True:=⟨of [],trivial⟩;obtain ⟨f,hf⟩: ∃ f:Nat->α,∀ i,i<n->ad.block<W.heap.size/\ ∀ j u,(rF (f i))[j]? =some u->W.cell? (ad.add (i*size α+j))=some u:=by
  refine ⟨λi=>if hi:i<n then Classical.choose (hex i hi) else of [],λi hi=>?_⟩;simp only [hi,dif_pos];exact Classical.choose_spec (hex i hi)
 refine ⟨some ad,n,c,(List.range n).map f,rfl,⟨by rw [tL];simp,λh0=>?_⟩,hn,hc,hr,λh=>by cases h⟩;obtain ⟨b,off,spot⟩:=ad;have hspot:spot=none:=by
  have h1:(rF (f 0))[0]? =some ((rF (f 0))[0]'(by rw [wh];exact hp)):=List.getElem?_eq_getElem _;simpa [Addr.add] using World.cell?_spot ((hf 0 h0).2 0 _ h1)
 subst hspot;refine ⟨b,off,rfl,(hf 0 h0).1,λj u hu=>?_⟩;have hj:j<n*size α:=by
  have:=(List.getElem?_eq_some_iff.1 hu).1;rw [tL] at this;simpa using this
 have hk:j / size α<n:=Nat.div_lt_of_lt_mul (by rw [Nat.mul_comm];exact hj);have hm:j % size α<size α:=Nat.mod_lt _ hp;have hg:((List.range n).map f)[j / size α]? =some (f (j / size α)):=by simp [hk]
 have e:j / size α*size α+j % size α=j:=by rw [Nat.mul_comm];exact Nat.div_add_mod j (size α)
 have h7:=(hf (j / size α) hk).2 (j % size α) u;rw [Go.WideShapes.add_plain,e] at h7;refine h7 ?_;have hi:(ints (f (j / size α)))[j % size α]? =some ((ints (f (j / size α)))[j % size α]'(by rw [len];exact hm)):=List.getElem?_eq_getElem _;have h8:=ER hg hi;rw [e,hu] at h8;rw [rF,List.getElem?_map,hi];exact h8.symm
end
theorem yG: ∀ {xs ys:List Int},xs.length=ys.length->dU (xs.map (Value.int .i64)) (ys.map (Value.int .i64))=decide (xs=ys)
 | [],[],_=>by simp [dU]
 | x::xs,y::ys,h=>by
  have ih:=yG (xs:=xs) (ys:=ys) (by simpa using h);simp only [List.map_cons,dU,tH,ih,List.cons.injEq];rw [Bool.eq_iff_iff];simp
 | [],_::_,h=>by simp at h
 | _::_,[],h=>by simp at h
theorem xE: ∀ (xs:List Int),dW Kd (xs.map (Value.int .i64)) (List.replicate xs.length (.at_ (.int .i64)))
 | []=>trivial
 | _::xs=>⟨⟨_,rfl⟩,xE xs⟩
end
section
open ChangeShapes WideShapes ChangeAt RowKit ChangeMaps MapKept
open Go.Maps (Keyed IsMap Tidy)
def Ib (v:Value):Option (DataW Value×List MemPlace):=some (.held v,[])
def qd (P:Program) (k:TypeId) (f:Int->Option Value) (n:Nat) (o:Obj):Prop:= ∃ es clock,o= .map es clock/\
 ∀ (w:World) (b:Nat),w.heap[b]? =some o-> ∃ D:DataW Value,w.ownsMap P k Ib b n D/\ ∀ z v,f z=some v-> ∀ zd,D.atKey (.int .i64 z) zd= .held v
section
variable {P:Program} {N:Nat} {l:Slots} {w w' w0:World} {B:Nat} {fs:List Fact} {ops:Array Oper} {o:Oper} {rest:List Oper} {Q:Exit->Act->World->Prop} {d:Nat}
theorem Xy {k:TypeId} {f:Int->Option Value} {n b:Nat} {D:DataW Value} (ho:w.ownsMap P k Ib b n D) (hf: ∀ z v,f z=some v-> ∀ zd,D.atKey (.int .i64 z) zd= .held v): ∃ o,w.heap[b]? =some o/\qd P k f n o:=by
 obtain ⟨es,clock,hb,F,hsz,hD⟩:=ho;exact ⟨_,hb,es,clock,rfl,λw2 b2 h2=>⟨D,⟨es,clock,h2,F,hsz,hD⟩,hf⟩⟩
theorem adZ {k:TypeId}:qd P k (λ_=>none) 0 (.map #[] 0):=by
 have h:=World.ownsMap_made default P k Ib;obtain ⟨o,h1,h2⟩:=Xy (f:=λ_=>none) h (λz v hv=>by cases hv);have:(World.alloc default (Obj.map #[] 0)).heap[(default:World).heap.size]? =some (.map #[] 0):=by
  show ((default:World).heap.push _)[_]? =_
  rw [Array.getElem?_push,if_pos rfl]
 rw [this] at h1
 cases h1;exact h2
theorem JF {t k:TypeId} (S:St B w0 w fs) (hw:Wanted N ops l o true) (hd:o.dst=some d) (hN:Nat.blt d N=true) (ho:o.op= .makeMap t none)
  (h: ∀ b w',St B w0 w' (.loc b (qd P k (λ_=>none) 0)::fs)->wL P N ops Q rest ((d,.map (some b))::l) w'):wL P N ops Q (o::rest) l w:=
 EF hw hd hN (Mt ho (run_makeMap t w)) (h _ _ (S.D6 adZ))
theorem ad1 {t:TypeId} {m x y:Operand} {p q r:Value} (ho:o.op= .insert t m x y) (hm:ev l m=some p) (hx:ev l x=some q) (hy:ev l y=some r) (hr:(Instr.mapUpdate t p q r).run P w= .ok () w'):Eff P N l o w w':=λa F=>by
 unfold execOp;simp [ho,F.ev hm,F.ev hx,F.ev hy,hr,Result.andThen]
theorem kG {t k e:TypeId} {m x y:Operand} {b n:Nat} {f:Int->Option Value} {z:Int} {v:Value} (i:Nat) (S:St B w0 w fs) (hw:Wanted N ops l o true) (hd:o.dst=none) (ho:o.op= .insert t m x y) (hm:ev l m=some (.map (some b))) (hx:ev l x=some (.int .i64 z)) (hy:ev l y=some v)
  (hi:fs[i]? =some (.loc b (qd P k f n))) (hk:P.underlying k=some (.int .i64)) (ht:P.underlying t=some (.map k e)) (hz: -9223372036854775808<=z/\z<=9223372036854775807) (hn:n<maxLen)
  (h: ∀ w',St B w0 w' (fs.set i (.loc b (qd P k (λy=>if y=z then some v else f y) (n+1))))->wL P N ops Q rest l w'):wL P N ops Q (o::rest) l w:=by
 obtain ⟨ob,hb,es,clock,rfl,hall⟩:=S.loc i hi;obtain ⟨D,hown,hf⟩:=hall w b hb;have K:Keyed P k:=Maps.int_keyed hk;have hkey:keyOf P k (.int .i64 z)=some (.int .i64 z):=Maps.keyOf_int_mk hk (by simp [Lit.wf,IntKind.min,IntKind.max,IntKind.signed,IntKind.bits];omega);obtain ⟨w',hrun,hown',htu⟩:=hown.store K ht hn hkey (d:= .held v) (ps:=[]) rfl;have hlk:WideAt.IsKeyLit (.int .i64 z):=trivial;have hmap:=hown.isMap;obtain ⟨o',ho',hR⟩:=Xy (f:=λy=>if y=z then some v else f y) hown' (λy u hu zd=>by
  by_cases e:y=z
  ·subst e;rw [if_pos rfl] at hu
   cases hu;exact Maps.atKey_put_same hmap hlk _ _
  rw [if_neg e] at hu;rw [Maps.atKey_put_other (by simpa using e)];exact hf y u hu zd)
 have hu:tT w b w':=by
  obtain ⟨es1,c1,es2,c2,h1,rfl⟩:=htu;exact ⟨rfl,rfl,rfl,by simp [setBlock],λj hj=>heap_setBlock_other h1 _ hj⟩
 exact EG hw hd (ad1 ho hm hx hy hrun) (h _ (S.TJ i hi hu ho' hR))
theorem jX {t k e:TypeId} {x y:Operand} {b n:Nat} {f:Int->Option Value} {z:Int} {v u:Value} (i:Nat) (S:St B w0 w fs) (ho:o.op= .lookup t x y false) (hx:ev l x=some (.map (some b))) (hy:ev l y=some (.int .i64 z))
  (hi:fs[i]? =some (.loc b (qd P k f n))) (hk:P.underlying k=some (.int .i64)) (ht:P.underlying t=some (.map k e)) (hu:(zeroValue e).run P w= .ok u w) (hz: -9223372036854775808<=z/\z<=9223372036854775807) (hf:f z=some v):iP P N l o w v:=λa F=>by
 obtain ⟨ob,hb,es,clock,rfl,hall⟩:=S.loc i hi;obtain ⟨D,hown,hD⟩:=hall w b hb;have K:Keyed P k:=Maps.int_keyed hk;have hkey:keyOf P k (.int .i64 z)=some (.int .i64 z):=Maps.keyOf_int_mk hk (by simp [Lit.wf,IntKind.min,IntKind.max,IntKind.signed,IntKind.bits];omega);obtain ⟨v',ps,hrun,hR⟩:=hown.lookup K ht hu (zd:= .held u) (zp:=[]) rfl hkey;rw [hD z v hf] at hR;simp only [Ib,Option.some.injEq,Prod.mk.injEq,DataW.held.injEq] at hR;obtain ⟨rfl,_⟩:=hR;unfold execOp;simp [ho,F.ev hx,F.ev hy,hrun,Result.andThen]
end
end
section
open ChangeShapes WideShapes RowKit
structure Ac where
 kd:Int
 nd:Int
 qu:Int
 at_:Int
 kp:Int
 ek:Int
 ep:Int
 ei:Int
 eb:Int
 eh:Int
 en:Int
def Ac.ints (x:Ac):List Int:=[x.kd,x.nd,x.qu,x.at_,x.kp,x.ek,x.ep,x.ei,x.eb,x.eh,x.en]
def Ho (l:List Int):List Value:=l.map (Value.int .i64)
def Ac.cells (x:Ac):List Value:=[iV x.kd,iV x.nd,iV x.qu,iV x.at_,iV x.kp,iV x.ek,iV x.ep,iV x.ei,iV x.eb,iV x.eh,iV x.en]
theorem Ac.QG (x:Ac):x.cells=Ho x.ints:=rfl
def Ac.get (x:Ac) (i:Nat):Int:=x.ints.getD i 0
theorem Ac.cell (x:Ac) {i:Nat} (h:i<11):x.cells[i]? =some (iV (x.get i)):=by
 rw [Ac.QG,Ho,List.getElem?_map,List.getElem?_eq_getElem (by exact h)];have e:x.get i=x.ints[i]'h:=by simp only [Ac.get,List.getD_eq_getElem?_getD,List.getElem?_eq_getElem (show i<x.ints.length from h),Option.getD_some];rfl
 rw [e];rfl
def aW (kd ek:Int):Option (List (Nat×Int)):=
 if kd=1 then some [(2,3),(1,4)] else if kd=10 then some [(2,3),(1,4)] else if kd=3 then some [(1,4)] else if kd=9 then some [(1,4)]
 else if kd=8 then some [(1,4),(4,100000)] else if kd=4 then some [(3,1048576)] else if kd=5 then some [(3,1048576)] else if kd=6 then some [(3,1048576)]
 else if kd=7 then some [] else if kd=2 then (if ek=1 then some [(1,4),(2,3),(6,3),(7,1073741824),(8,1000000)] else if ek=2 then some [(1,4),(2,3)]
 else if ek=3 then some [(1,4),(2,3),(9,1048576),(10,1073741824)] else none) else none
theorem kinds (kd ek:Int):kd=1\/kd=10\/kd=3\/kd=9\/kd=8\/kd=4\/kd=5\/kd=6\/kd=7\/(kd=2/\ek=1)\/(kd=2/\ek=2)\/(kd=2/\ek=3)\/aW kd ek=none:=by
 by_cases h1:kd=1
 ·simp [h1]
 by_cases h10:kd=10
 ·simp [h10]
 by_cases h3:kd=3
 ·simp [h3]
 by_cases h9:kd=9
 ·simp [h9]
 by_cases h8:kd=8
 ·simp [h8]
 by_cases h4:kd=4
 ·simp [h4]
 by_cases h5:kd=5
 ·simp [h5]
 by_cases h6:kd=6
 ·simp [h6]
 by_cases h7:kd=7
 ·simp [h7]
 by_cases h2:kd=2
 ·by_cases e1:ek=1
  ·simp [h2,e1]
  by_cases e2:ek=2
  ·simp [h2,e2]
  by_cases e3:ek=3
  ·simp [h2,e3]
  simp [aW,h2,e1,e2,e3]
 simp [aW,h2,h1,h10,h3,h9,h8,h4,h5,h6,h7]
theorem Dx {kd ek:Int} {l:List (Nat×Int)} (h:aW kd ek=some l): ∀ p∈l,1<=p.1/\p.1<11/\p.1≠5:=by
 rcases kinds kd ek with rfl | rfl | rfl | rfl | rfl | rfl | rfl | rfl | rfl | ⟨rfl,rfl⟩ | ⟨rfl,rfl⟩ | ⟨rfl,rfl⟩ | hn
 all_goals first | (rw [hn] at h;cases h;done) | (simp [aW] at h;subst h;decide)
theorem zD {kd ek:Int} {l:List (Nat×Int)} (h:aW kd ek=some l):l.length<=5:=by
 rcases kinds kd ek with rfl | rfl | rfl | rfl | rfl | rfl | rfl | rfl | rfl | ⟨rfl,rfl⟩ | ⟨rfl,rfl⟩ | ⟨rfl,rfl⟩ | hn
 all_goals first | (rw [hn] at h;cases h;done) | (simp [aW] at h;subst h;decide)
def FL (x:Ac) (p:Nat×Int):Bool:=decide (0<=x.get p.1/\x.get p.1<=p.2)
def yH (c:List Int) (l:List (Nat×Int)):List Int:=l.foldl (λc p=>c.set p.1 0) c
def fin (x:Ac) (l:List (Nat×Int)):List Int:=(if x.kd=2 then (yH x.ints l).set 5 0 else yH x.ints l).set 0 0
def zeros:List Int:=[0,0,0,0,0,0,0,0,0,0,0]
def aN (x:Ac):Int:=match aW x.kd x.ek with
 | none=>3
 | some l=>if l.all (FL x)=true then (if fin x l=zeros then 0 else 3) else 2
def keep (x:Ac):Ac:=
 if x.kd=1 then ⟨x.kd,x.nd,x.qu,0,0,0,0,0,0,0,0⟩ else if x.kd=10 then ⟨x.kd,x.nd,x.qu,0,0,0,0,0,0,0,0⟩ else if x.kd=3 then ⟨x.kd,x.nd,0,0,0,0,0,0,0,0,0⟩ else if x.kd=9 then ⟨x.kd,x.nd,0,0,0,0,0,0,0,0,0⟩
 else if x.kd=8 then ⟨x.kd,x.nd,0,0,x.kp,0,0,0,0,0,0⟩ else if x.kd=4 then ⟨x.kd,0,0,x.at_,0,0,0,0,0,0,0⟩ else if x.kd=5 then ⟨x.kd,0,0,x.at_,0,0,0,0,0,0,0⟩ else if x.kd=6 then ⟨x.kd,0,0,x.at_,0,0,0,0,0,0,0⟩
 else if x.kd=7 then ⟨x.kd,0,0,0,0,0,0,0,0,0,0⟩ else if x.ek=1 then ⟨x.kd,x.nd,x.qu,0,0,x.ek,x.ep,x.ei,x.eb,0,0⟩ else if x.ek=2 then ⟨x.kd,x.nd,x.qu,0,0,x.ek,0,0,0,0,0⟩ else ⟨x.kd,x.nd,x.qu,0,0,x.ek,0,0,0,x.eh,x.en⟩
theorem QH {x:Ac} {l:List (Nat×Int)} (h:aW x.kd x.ek=some l):x.ints=(keep x).ints↔fin x l=zeros:=by
 obtain ⟨kd,nd,qu,at_,kp,ek,ep,ei,eb,eh,en⟩:=x
 rcases kinds kd ek with rfl | rfl | rfl | rfl | rfl | rfl | rfl | rfl | rfl | ⟨rfl,rfl⟩ | ⟨rfl,rfl⟩ | ⟨rfl,rfl⟩ | hn
 all_goals first | (dsimp only at h;rw [hn] at h;cases h) | (simp [aW] at h;subst h;simp [Ac.ints,keep,fin,yH,zeros];try omega)
theorem Xz {x y:Ac} (h:x.ints=y.ints):x=y:=by
 obtain ⟨a1,a2,a3,a4,a5,a6,a7,a8,a9,a10,a11⟩:=x;obtain ⟨b1,b2,b3,b4,b5,b6,b7,b8,b9,b10,b11⟩:=y;simpa [Ac.ints] using h
section
variable {x:Ac} {l:List (Nat×Int)}
theorem Ow (h:aW x.kd x.ek=none):aN x=3:=by unfold aN;rw [h]
theorem zF (h:aW x.kd x.ek=some l) (ha: ¬ l.all (FL x)=true):aN x=2:=by unfold aN;rw [h];exact if_neg ha
theorem Ic (h:aW x.kd x.ek=some l) (ha:l.all (FL x)=true) (hf: ¬ fin x l=zeros):aN x=3:=by unfold aN;rw [h];simp only [if_pos ha,if_neg hf]
theorem aj3 (h:aW x.kd x.ek=some l) (ha:l.all (FL x)=true) (hf:fin x l=zeros):aN x=0:=by unfold aN;rw [h];simp only [if_pos ha,if_pos hf]
theorem ad2 {k:Nat} {p:Nat×Int} (h:l[k]? =some p) (ha:(l.take k).all (FL x)=true) (hp:0<=x.get p.1/\x.get p.1<=p.2):(l.take (k+1)).all (FL x)=true:=by
 rw [List.take_add_one,h,List.all_append,ha];simp [FL,hp]
theorem XA {k:Nat} {p:Nat×Int} (h:l[k]? =some p) (hp: ¬ (0<=x.get p.1/\x.get p.1<=p.2)): ¬ l.all (FL x)=true:=λha=>by
 have:=List.all_eq_true.1 ha p (List.mem_of_getElem? h);simp only [FL,decide_eq_true_eq] at this;exact hp this
theorem ad3 {c:List Int} {k:Nat} {p:Nat×Int} (h:l[k]? =some p):(yH c (l.take k)).set p.1 0=yH c (l.take (k+1)):=by
 unfold yH;rw [List.take_add_one,h,List.foldl_append];rfl
theorem xG (c:List Int): ∀ (l:List (Nat×Int)),(yH c l).length=c.length
 | []=>rfl
 | p::l=>by
  show (yH (c.set p.1 0) l).length=_
  rw [xG _ l,List.length_set]
theorem QJ: ∀ (l:List (Nat×Int)) (c:List Int),(∀ p∈l,1<=p.1)->(yH c l)[0]? =c[0]?
 | [],_,_=>rfl
 | p::l,c,h=>by
  show (yH (c.set p.1 0) l)[0]? =_
  rw [QJ l _ λq hq=>h q (List.mem_cons_of_mem _ hq),List.getElem?_set_ne (by have:=h p (List.mem_cons_self ..);omega)]
end
def kV (c:List Int):Array Value:=(Ho c).toArray
theorem lV {c:List Int} (h:c.length=11):(kV c).size=11:=by simp [kV,Ho,h]
theorem YR {c:List Int} {i:Nat} {v:Int} (h:c[i]? =some v):(kV c)[i]? =some (iV v):=by simp [kV,Ho,h]
theorem Bc {c:List Int} {i:Nat}:(kV c).setIfInBounds i (iV 0)=kV (c.set i 0):=by
 apply Array.toList_inj.1;simp [kV,Ho,Array.toList_setIfInBounds,List.map_set]
theorem aie:flat Tryz.prog 30 53=some (List.replicate 11 (.at_ (.int .i64))):=kQ
theorem aif:FI Tryz.prog 30 53=true:=kQ
theorem aog (xs:List Value):mkV Tryz.prog 53 xs= .agg xs.toArray:=by
 unfold mkV;rw [Tryz.underlying53]
theorem acz {a b:List Int} (ha:a.length=11) (hb:b.length=11) (w:World):(binOp .neq 53 (.agg (kV a)) (.agg (kV b))).run Tryz.prog w= .ok (.bool (!decide (a=b))) w:=by
 have k1:=xE a;have k2:=xE b;rw [ha] at k1;rw [hb] at k2;have h:=rT (P:=Tryz.prog) w aie aif aog k1 k2;rw [yG (by rw [ha,hb])] at h;exact h
end
section
open ChangeShapes WideShapes ChangeAt RowKit
theorem QK {α:Type} {enc:α->List Value} {sz:Nat} (hsz: ∀ x,(enc x).length=sz): ∀ (k:Nat) (l:List α),(l.flatMap enc).drop (k*sz)=(l.drop k).flatMap enc
 | 0,l=>by simp
 | k+1,[]=>by simp
 | k+1,x::l=>by rw [List.flatMap_cons,Nat.succ_mul,Nat.add_comm,<-List.drop_drop,List.drop_left' (hsz x),QK hsz k l];rfl
theorem QL {α:Type} {enc:α->List Value} {sz:Nat} (hsz: ∀ x,(enc x).length=sz): ∀ (k:Nat) (l:List α),(l.flatMap enc).take (k*sz)=(l.take k).flatMap enc
 | 0,l=>by simp
 | k+1,[]=>by simp
 | k+1,x::l=>by rw [List.flatMap_cons,Nat.succ_mul,Nat.add_comm,List.take_append,hsz x,List.take_of_length_le (by rw [hsz x];omega),Nat.add_sub_cancel_left,QL hsz k l];rfl
theorem ES {P:Program} {t e:TypeId} {α:Type} {enc:α->List Value} {s:Nat} (hsz: ∀ x,(enc x).length=s) {A:Option Addr} {b:List α} {n c:Nat} {lo hi mx:Option Value} {l k q m c':Nat} (hu:P.underlying t=some (.slice e)) (hz:(P.info? e).map (·.size)=some s) (hb: ∀ w,(Instr.sliceBounds true n c lo hi mx).run P w= .ok (l,k,q) w)
  (hlk:l<=k) (hkn:k<=n) (hkq:k<=q) (hm:k-l=m) (hc:q-l=c'): ∃ A',(∀ w,(Instr.sliceAt t (.slice A n c) lo hi mx).run P w= .ok (.slice A' m c') w)/\(∀ (w:World) (B:Nat),Rd w B s A n (b.flatMap enc)->Rd w B s A' m (((b.drop l).take m).flatMap enc))/\ ∀ a',A'=some a'-> ∃ a,A=some a/\a.block=a'.block:=by
 subst hm;subst hc;obtain ⟨A',h1,h2,h3⟩:=Bb (A:=A) hu hz hb hlk hkn hkq;refine ⟨A',h1,λw B hR=>?_,h3⟩
 replace h2:=h2 w B _ hR
 rw [QK hsz,QL hsz] at h2;exact h2
end
section
open ChangeShapes WideShapes RowKit
structure dH where
 kind:Int
 queue:Int
 epoch:Int
 peer:Int
 ev:Ev
 deriving DecidableEq
def dH.val (r:dH):Value:= .agg #[.int .i64 r.kind,.int .i64 r.queue,.int .i64 r.epoch,.int .i64 r.peer,.int .i64 r.ev.kind,.int .i64 r.ev.producer,.int .i64 r.ev.id,.int .i64 r.ev.body,.int .i64 r.ev.aL,.int .i64 r.ev.hno]
def kW (k:Int):Bool:=k==2 || k==5
def aQ:Ev:=⟨0,0,0,0,0,0⟩
def aJ (r:dH):Int:=
 if kC r.kind 1 7=false then 3
 else if (kC r.queue 0 3&&kC r.epoch 0 1048576&&kC r.peer 0 4)=false then 2
 else if kW r.kind=true then bL r.ev
 else if r.ev=aQ then 0 else 3
theorem fI (k:Int) (w:World):Calls Tryz.prog 109 #[.int .i64 k] w λe w'=>e= .returned (.bool (kW k))/\w=w':=by
 unfold kW
 cases h1:(k==2)<;>cases h2:(k==5)
 all_goals
  go_enter Tryz.func109,Tryz.ntmps109
  go_wp2
  go_ret
  exact ⟨by simp,rfl⟩
theorem Sb (r:dH) (w:World) (h:kC r.kind 1 7=false):Calls Tryz.prog 80 #[r.val] w (mM w 3):=by
 obtain ⟨k,q,ep,pe,x0,x1,x2,x3,x4,x5⟩:=r;unfold dH.val;simp only at h
 rcases Yq.1 h with h1 | h1
 all_goals
  clear h
  go_enter Tryz.func80,Tryz.ntmps80
  go_wp2_with (first | (go_at_call 108;refine (eD _ _ _ _).mono ?_;rintro e w' ⟨rfl,rfl⟩) | (go_at_call 109;refine (fI _ _).mono ?_;rintro e w' ⟨rfl,rfl⟩))
  go_ret
  exact ⟨rfl,by go_grown⟩
theorem OU (r:dH) (w:World) (h:kC r.kind 1 7=true) (hb:(kC r.queue 0 3&&kC r.epoch 0 1048576&&kC r.peer 0 4)=false):Calls Tryz.prog 80 #[r.val] w (mM w 2):=by
 obtain ⟨k,q,ep,pe,x0,x1,x2,x3,x4,x5⟩:=r;unfold dH.val;simp only at h hb;obtain ⟨hk0,hk1⟩:=D8.1 h
 cases r1:kC q 0 3<;>cases r2:kC ep 0 1048576<;>cases r3:kC pe 0 4<;>simp [r1,r2,r3] at hb
 all_goals
  go_enter Tryz.func80,Tryz.ntmps80
  go_wp2_with (first | (go_at_call 108;refine (eD _ _ _ _).mono ?_;rintro e w' ⟨rfl,rfl⟩) | (go_at_call 109;refine (fI _ _).mono ?_;rintro e w' ⟨rfl,rfl⟩))
  go_ret
  exact ⟨rfl,by go_grown⟩
theorem Sc (r:dH) (w:World) (h:kC r.kind 1 7=true) (hb:(kC r.queue 0 3&&kC r.epoch 0 1048576&&kC r.peer 0 4)=true) (he:kW r.kind=false):Calls Tryz.prog 80 #[r.val] w (mM w (if r.ev=aQ then 0 else 3)):=by
 obtain ⟨k,q,ep,pe,x0,x1,x2,x3,x4,x5⟩:=r;unfold dH.val;simp only at h hb he⊢;obtain ⟨hk0,hk1⟩:=D8.1 h;simp only [Bool.and_eq_true] at hb;obtain ⟨⟨r1,r2⟩,r3⟩:=hb;have hq:=qZ ⟨x0,x1,x2,x3,x4,x5⟩ aQ;by_cases z:(⟨x0,x1,x2,x3,x4,x5⟩:Ev)=aQ
 ·rw [if_pos z];rw [show decide ((⟨x0,x1,x2,x3,x4,x5⟩:Ev)=aQ)=true from decide_eq_true z] at hq;simp only [aQ] at hq z;simp only [Ev.mk.injEq] at z;obtain ⟨rfl,rfl,rfl,rfl,rfl,rfl⟩:=z
  go_enter Tryz.func80,Tryz.ntmps80
  go_wp2_with (first | (go_at_call 108;refine (eD _ _ _ _).mono ?_;rintro e w' ⟨rfl,rfl⟩) | (go_at_call 109;refine (fI _ _).mono ?_;rintro e w' ⟨rfl,rfl⟩))
  go_ret
  exact ⟨rfl,by go_grown⟩
 rw [if_neg z];rw [show decide ((⟨x0,x1,x2,x3,x4,x5⟩:Ev)=aQ)=false from decide_eq_false z] at hq;simp only [aQ] at hq;have HZ:=Lib.hid z;clear z
 go_enter Tryz.func80,Tryz.ntmps80
 go_wp2_with (first | (go_at_call 108;refine (eD _ _ _ _).mono ?_;rintro e w' ⟨rfl,rfl⟩) | (go_at_call 109;refine (fI _ _).mono ?_;rintro e w' ⟨rfl,rfl⟩))
 go_ret
 exact ⟨rfl,by go_grown⟩
theorem OV (r:dH) (w:World) (h:kC r.kind 1 7=true) (hb:(kC r.queue 0 3&&kC r.epoch 0 1048576&&kC r.peer 0 4)=true) (he:kW r.kind=true):Calls Tryz.prog 80 #[r.val] w (mM w (bL r.ev)):=by
 have HC:=Lib.hid (Gs r.ev);generalize bL r.ev=z at HC;obtain ⟨k,q,ep,pe,x0,x1,x2,x3,x4,x5⟩:=r;unfold dH.val;unfold Ev.val at HC;simp only at h hb he HC⊢;obtain ⟨hk0,hk1⟩:=D8.1 h;simp only [Bool.and_eq_true] at hb;obtain ⟨⟨r1,r2⟩,r3⟩:=hb;have hk:k=2\/k=5:=by unfold kW at he;simp at he;exact he
 rcases hk with rfl | rfl
 all_goals
  go_enter Tryz.func80,Tryz.ntmps80
  go_wp2_with (first | (go_at_call 108;refine (eD _ _ _ _).mono ?_;rintro e w' ⟨rfl,rfl⟩) | (go_at_call 109;refine (fI _ _).mono ?_;rintro e w' ⟨rfl,rfl⟩))
  refine (HC.out _).mono ?_;rintro e w1 ⟨rfl,hb1⟩;have HB:=Lib.hid hb1;clear hb1
  go_wp2_with fail
  go_ret
  exact ⟨rfl,((Below.refl _ w).alloc (Nat.le_refl _) _).trans (HB.out.mono iQ)⟩
theorem jI (r:dH) (w:World):Calls Tryz.prog 80 #[r.val] w (mM w (aJ r)):=by
 unfold aJ
 cases h:kC r.kind 1 7
 ·rw [if_pos rfl];exact Sb r w h
 rw [if_neg iQ]
 cases hb:(kC r.queue 0 3&&kC r.epoch 0 1048576&&kC r.peer 0 4)
 ·rw [if_pos rfl];exact OU r w h hb
 rw [if_neg iQ]
 cases he:kW r.kind
 ·rw [if_neg iQ];exact Sc r w h hb he
 rw [if_pos rfl];exact OV r w h hb he
end
section
open ChangeShapes WideShapes ChangeAt RowKit
section
variable {P:Program} {N:Nat} {l:Slots} {w w' w0:World} {B:Nat} {fs fs':List Fact} {ops:Array Oper} {o:Oper} {rest:List Oper} {Q:Exit->Act->World->Prop} {v:Value}
def rU:List Value->Nat->List Value->List Value
 | xs,_,[]=>xs
 | xs,k,v::vs=>rU (xs.set k v) (k+1) vs
theorem Gv: ∀ (vs:List Value) (cur:Array Value) (k:Nat),(cB cur k vs).toList=rU cur.toList k vs
 | [],_,_=>rfl
 | v::vs,cur,k=>by rw [cB,rU,Gv vs,Array.toList_setIfInBounds]
theorem MK (m:Nat): ∀ (vs xs:List Value) (k:Nat),(rU xs k vs).take m=rU (xs.take m) k vs
 | [],_,_=>rfl
 | v::vs,xs,k=>by rw [rU,rU,MK m vs,List.take_set]
theorem Gw: ∀ (vs xs:List Value) (k:Nat),(rU xs k vs).length=xs.length
 | [],_,_=>rfl
 | v::vs,xs,k=>by rw [rU,Gw vs,List.length_set]
theorem aii {e:TypeId} {s g n c k:Nat} {xs:List Value} (h:w.ownsRow B e s (.slice (some ⟨g,0,none⟩) n c) n xs) (cs:List Value):(w.setCells g k cs).ownsRow B e s (.slice (some ⟨g,0,none⟩) n c) n (rU xs k cs):=by
 obtain ⟨hl,h | ⟨g',cap,cur,hv,hg,hh,hn,hc,hsz,ht⟩⟩:=h
 ·exact absurd h.1 iQ
 injection hv with h1 h2 h3
 injection h1 with h1
 injection h1 with h1 h4 h5
 subst h1;subst h3;have hb:fK w g cur e:=⟨hh⟩;have hb':=jg cs k hb;refine ⟨by rw [Gw];exact hl,.inr ⟨g,c,cB cur k cs,rfl,hg,hb'.blk,hn,hc,by rw [ni];exact hsz,?_⟩⟩;rw [Gv,MK,ht]
theorem St.aoh {e:TypeId} {s g n c k:Nat} {xs:List Value} (i:Nat) (S:St B w0 w fs) (hi:fs[i]? =some (.own e s (.slice (some ⟨g,0,none⟩) n c) n xs)) (cs:List Value):St B w0 (w.setCells g k cs) (fs.set i (.own e s (.slice (some ⟨g,0,none⟩) n c) n (rU xs k cs))):=
 St.abX i S hi (jh g cs k w) (aii (S.own i hi) cs)
theorem St.ad4 {e:TypeId} {s g n c k m:Nat} {xs:List Value} (i:Nat) (S:St B w0 w fs) (hi:fs[i]? =some (.own e s (.slice (some ⟨g,0,none⟩) n c) n xs)) (hk:k+m<=n*s):w.there g k m:=λj hj=>by
 obtain ⟨hl,h | ⟨g',cap,cur,hv,hg,hh,hn,hc,hsz,ht⟩⟩:=S.own i hi
 ·exact absurd h.1 iQ
 injection hv with h1 h2 h3
 injection h1 with h1
 injection h1 with h1 h4 h5
 subst h1;subst h3;have hle:n*s<=c*s:=Nat.mul_le_mul_right s hn;have hlt:k+j<cur.size:=by rw [hsz];omega
 have hb:fK w g cur e:=⟨hh⟩;exact ⟨by rw [hb.cell (k:=k+j) (Array.getElem?_eq_getElem hlt)];rfl,hb.free _⟩
theorem lZ {ty e:TypeId} {x y:Operand} {s g n c k m:Nat} {cs:Array Value} {xs xs':List Value} (i:Nat) (S:St B w0 w fs) (hw:Wanted N ops l o true) (hd:o.dst=none) (ho:o.op= .store ty x y) (hx:ev l x=some (.pointer (some ⟨g,k,none⟩))) (hy:ev l y=some v)
  (hi:fs[i]? =some (.own e s (.slice (some ⟨g,0,none⟩) n c) n xs)) (hv:v.cells=cs) (hz:(P.info? ty).map (·.size)=some m) (hm:cs.size=m) (h1: ∀ u∈cs.toList,u.oneCell'=true) (hk:k+m<=n*s) (hxs:rU xs k cs.toList=xs')
  (h: ∀ w',St B w0 w' (fs.set i (.own e s (.slice (some ⟨g,0,none⟩) n c) n xs'))->wL P N ops Q rest l w'):wL P N ops Q (o::rest) l w:=by
 subst hxs;exact EG hw hd (Hz ho hx hy (H9 hv hz hm h1 (S.ad4 i hi hk))) (h _ (S.aoh i hi cs.toList))
theorem Ie {ty t:TypeId} {x y:Operand} {b k:Nat} {u:Value} {row row':Array Value} (i:Nat) (S:St B w0 w fs) (hw:Wanted N ops l o true) (hd:o.dst=none) (ho:o.op= .store ty x y) (hx:ev l x=some (.pointer (some ⟨b,k,none⟩))) (hy:ev l y=some v)
  (hi:fs[i]? =some (.blk b row t)) (hv:v.cells= #[u]) (hz:(P.info? ty).map (·.size)=some 1) (h1:u.oneCell'=true) (hk:k<row.size) (hrow:row.setIfInBounds k u=row')
  (h: ∀ w',St B w0 w' (fs.set i (.blk b row' t))->wL P N ops Q rest l w'):wL P N ops Q (o::rest) l w:=by
 refine fq i S hw hd ho hx hy hi hv hz rfl (by simpa using h1) oQ (row':=row') ?_ rfl h;subst hrow;rfl
end
end
section
open Go.RowKit
theorem Dy:(Tryz.prog.info? 5).map (λi=>(i.zero,i.size,i.bytes))=some (some (.int .u8 0),1,1):=kQ
def ou:List UInt8->Int×Int
 | a::b::c::d::_=>if 127<a.toNat then (0,2) else (16777216*(a.toNat:Int)+65536*(b.toNat:Int)+256*(c.toNat:Int)+(d.toNat:Int),0)
 | _=>(0,4)
theorem Gx {l:List UInt8} (h:l.length<4):ou l=(0,4):=by
 match l,h with
 | [],_=>rfl
 | [_],_=>rfl
 | [_,_],_=>rfl
 | [_,_,_],_=>rfl
theorem aij {l:List UInt8} (h: ¬ l.length<4): ∃ a b c d r,l=a::b::c::d::r:=by
 match l,h with
 | a::b::c::d::r,_=>exact ⟨a,b,c,d,r,rfl⟩
 | [],h=>simp at h
 | [_],h=>simp at h
 | [_,_],h=>simp at h
 | [_,_,_],h=>simp at h
theorem Uz (a:UInt8):0<=(a.toNat:Int)/\(a.toNat:Int)<=255:=by
 have:=a.toNat_lt;omega
theorem VT (A:Option Addr) (n c:Nat) (l:List UInt8) (w:World) {B:Nat} (h:Rd w B 1 A n (byteCells l)) (hn:n<=c):
  Calls Tryz.prog 161 #[.slice A n c] w λe w'=>e= .returned (.tuple #[.int .i64 (ou l).1,.int .i64 (ou l).2])/\w=w':=by
 have hl:=h.nE;by_cases h4:l.length<4
 ·rw [Gx h4];have hn4:n<4:=oQ;clear hl h4
  go_enter Tryz.func161,Tryz.ntmps161
  go_wp2
  go_ret2
  exact ⟨rfl,rfl⟩
 have hn4:4<=n:=oQ;have hc4:4<=c:=oQ;obtain ⟨x0,x1,x2,x3,r,rfl⟩:=aij h4;obtain ⟨b,off,rfl,_,hcell⟩:=h.2 oQ;have c0:=hcell 0 (.int .u8 x0.toNat) rfl;have c1:=hcell 1 (.int .u8 x1.toNat) rfl;have c2:=hcell 2 (.int .u8 x2.toNat) rfl;have c3:=hcell 3 (.int .u8 x3.toNat) rfl;rw [Nat.add_zero] at c0;have b0:=Uz x0;have b1:=Uz x1;have b2:=Uz x2;have b3:=Uz x3;have q0:=awF x0.toNat oQ oQ;have q1:=or8 x0.toNat x1.toNat oQ oQ oQ oQ;have q2:=or8 (x0.toNat*256+x1.toNat) x2.toNat oQ oQ oQ oQ;have q3:=or8 ((x0.toNat*256+x1.toNat)*256+x2.toNat) x3.toNat oQ oQ oQ oQ;have hm:ou (x0::x1::x2::x3::r)=if 127<x0.toNat then (0,2) else (16777216*(x0.toNat:Int)+65536*(x1.toNat:Int)+256*(x2.toNat:Int)+(x3.toNat:Int),0):=rfl
 clear h hl h4 hcell;by_cases hx:127<x0.toNat
 ·rw [hm,if_pos hx];clear hm
  go_enter Tryz.func161,Tryz.ntmps161
  go_wp2
  go_rounds 5
  go_ret2
  exact ⟨rfl,rfl⟩
 rw [hm,if_neg hx];clear hm
 go_enter Tryz.func161,Tryz.ntmps161
 go_wp2
 go_rounds 5
 go_ret2
 exact ⟨ahg oQ,rfl⟩
end
section
open ChangeShapes WideShapes RowKit
def BP (l:List UInt8):Int×Int:=l.foldl (λs c=>(s.1+c.toNat,s.2+(s.1+c.toNat))) (1,0)
theorem ad5 (l:List UInt8) (x:UInt8):BP (l++[x])=((BP l).1+x.toNat,(BP l).2+((BP l).1+x.toNat)):=by simp [BP]
theorem QM {l:List UInt8} {k:Nat} {x:UInt8} (h:l[k]? =some x):BP (l.take (k+1))=((BP (l.take k)).1+x.toNat,(BP (l.take k)).2+((BP (l.take k)).1+x.toNat)):=by
 rw [<-ad5,List.take_add_one,h];rfl
theorem VU (l:List UInt8) (hl:l.length<=1048576) (k:Nat) (hk:k<=l.length):1<=(BP (l.take k)).1/\(BP (l.take k)).1<=1+255*k/\0<=(BP (l.take k)).2/\(BP (l.take k)).2<=267386881*k:=by
 induction k with
 | zero=>simp [BP]
 | succ k ih=>
  have ih:=ih oQ;have hx:l[k]? =some l[k]:=List.getElem?_eq_getElem oQ;have awH:(l[k]).toNat<=255:=by have:=(l[k]).toNat_lt;omega
  rw [QM hx];generalize BP (l.take k)=s at ih;generalize (l[k]).toNat=v at awH;obtain ⟨h1,h2,h3,h4⟩:=ih;refine ⟨?_,?_,?_,?_⟩<;>simp only<;>omega
def zk (l:List UInt8):Int:=(BP l).2 % 65521*65536+(BP l).1 % 65521
theorem Rd.aoi {w:World} {B n k:Nat} {A:Option Addr} {l:List UInt8} (h:Rd w B 1 A n (byteCells l)) (hk:k<n): ∃ b off x,A=some ⟨b,off,none⟩/\b<B/\l[k]? =some x/\w.cell? ⟨b,off+k,none⟩=some (.int .u8 x.toNat):=by
 obtain ⟨b,off,u,e,hb,hx,hc⟩:=h.at_ hk;simp only [byteCells,List.getElem?_map,Option.map_eq_some_iff] at hx;obtain ⟨x,hx,rfl⟩:=hx;exact ⟨b,off,x,e,hb,hx,hc⟩
theorem ML (A:Option Addr) (n c:Nat) (l:List UInt8) (w:World) {B:Nat} (h:Rd w B 1 A n (byteCells l)) (hn:n<=1048576):
  Calls Tryz.prog 106 #[.slice A n c] w λe w'=>e= .returned (.int .i64 (zk l))/\ ∃ q,w'=w.drewN q:=by
 have hl:=h.nE;have H:=Lib.hid h;have HL:=Lib.hid hl;have HBD:=Lib.hid (VU l oQ);have HZ0:Hid (∀ z,z=zk l->z=(BP l).2 % 65521*65536+(BP l).1 % 65521):=Lib.hid (λz h=>h);generalize hz:zk l=z;have HZ:=Lib.hid (HZ0.out z hz.symm);clear h hl hz HZ0
 go_enter Tryz.func106,Tryz.ntmps106
 go_wp2_with fail
 go_loopw [3,4,9] (λa b i wr=> ∃ k:Nat,k<=n/\i= .int .i64 k/\a= .int .i64 ((BP (l.take k)).1 % 65521)/\b= .int .i64 ((BP (l.take k)).2 % 65521)/\ ∃ q,wr=w.drewN q) (λ_ _ i _=>n-(intOf i).toNat)
 case atStart=>exact ⟨0,by omega,rfl,rfl,rfl,0,rfl⟩
 case round=>
  obtain ⟨k,hk,rfl,rfl,rfl,q,rfl⟩:=hrel;obtain ⟨b1,b2,b3,b4⟩:=HBD.out k (by have:=HL.out;omega);by_cases hlt:k<n
  ·obtain ⟨b,off,x,rfl,hb,hx,hc⟩:=H.out.aoi hlt;have hx255:x.toNat<=255:=by have:=x.toNat_lt;omega
   have HE:=Lib.hid (QM hx);clear hx;generalize BP (l.take k)=s at HE b1 b2 b3 b4⊢;obtain ⟨s1,s2⟩:=s;simp only at b1 b2 b3 b4 HE⊢;have k1:0<=s1 % 65521/\s1 % 65521<65521:=oQ;have k2:0<=s2 % 65521/\s2 % 65521<65521:=oQ;have HS1:Hid ((s1+(x.toNat:Int)) % 65521=(s1 % 65521+x.toNat) % 65521):=Lib.hid oQ;have HS2:Hid ((s2+(s1+(x.toNat:Int))) % 65521=(s2 % 65521+(s1 % 65521+x.toNat) % 65521) % 65521):=Lib.hid oQ;obtain ⟨k1a,k1b⟩:=k1;obtain ⟨k2a,k2b⟩:=k2;generalize s1 % 65521=u1 at HS1 HS2 k1a k1b⊢;generalize s2 % 65521=u2 at HS2 k2a k2b⊢;have m1:(u1+(x.toNat:Int)).tmod 65521=(u1+x.toNat) % 65521:=Int.tmod_eq_emod_of_nonneg oQ;have k3:0<=(u1+(x.toNat:Int)) % 65521/\(u1+(x.toNat:Int)) % 65521<65521:=oQ;obtain ⟨k3a,k3b⟩:=k3;generalize (u1+(x.toNat:Int)) % 65521=u3 at m1 HS1 HS2 k3a k3b;have m2:(u2+u3).tmod 65521=(u2+u3) % 65521:=Int.tmod_eq_emod_of_nonneg oQ
   go_wp2_with fail
   go_roundw
   case rel=>exact ⟨k+1,by omega,by go_num,by rw [HE.out,HS1.out],by rw [HE.out,HS2.out],q,rfl⟩
   case measure=>simp [intOf];omega
  obtain rfl:k=n:=oQ;have e1:l.take k=l:=List.take_of_length_le (by have:=HL.out;omega);rw [e1] at b1 b2 b3 b4⊢;clear e1 HBD;generalize BP l=s at HZ b1 b2 b3 b4⊢;obtain ⟨s1,s2⟩:=s;simp only at b1 b2 b3 b4 HZ⊢;have k1:0<=s1 % 65521/\s1 % 65521<65521:=oQ;have k2:0<=s2 % 65521/\s2 % 65521<65521:=oQ;obtain ⟨k1a,k1b⟩:=k1;obtain ⟨k2a,k2b⟩:=k2;have ho:=awE (s2 % 65521) (s1 % 65521) k2a oQ k1a oQ;have HO:=Lib.hid ho;clear b1 b2 b3 b4
  go_wp2_with fail
  go_ret
  exact ⟨by rw [HZ.out];rfl,q,rfl⟩
theorem Ig {w:World} {base:Nat} {e:TypeId} {size n c:Nat} {A:Option Addr} {xs:List Value} (h:w.ownsRow base e size (.slice A n c) n xs):n<=c:=by
 obtain ⟨A2,c2,hv,h2,_⟩:=lX h;simp only [Value.slice.injEq] at hv;obtain ⟨_,_,rfl⟩:=hv;exact h2
theorem Fz (w:World) (e:TypeId) (size:Nat):(w.alloc (.cells #[] e)).ownsRow w.heap.size e size (.slice (some ⟨w.heap.size,0,none⟩) 0 0) 0 []:=by
 refine ⟨by simp,.inr ⟨w.heap.size,0,#[],rfl,Nat.le_refl _,heap_alloc_new w _,Nat.le_refl _,Nat.zero_le _,by simp,by simp⟩⟩
theorem OW (A:Option Addr) (n c:Nat) (l:List UInt8) (w:World) (h:Rd w w.heap.size 1 A n (byteCells l)) (hc:n<=reachBytes):
  Calls Tryz.prog 101 #[.slice A n c] w (jw w 5 1 n (byteCells l)):=by
 have hc':n<=140737488351232:=hc;obtain ⟨i0,hi0,hz0,hz1,hz2⟩:=info_parts Dy
 cases A with
 | none=>
  have hn:n=0:=by
   rcases Nat.eq_zero_or_pos n with h0 | h0
   ·exact h0
   obtain ⟨b,off,e,_⟩:=h.2 h0
   cases e
  subst hn;have hl:byteCells l=[]:=List.eq_nil_of_length_eq_zero (by have:=h.1;omega);rw [hl];clear hl h
  go_enter Tryz.func101,Tryz.ntmps101
  have he:= @Lib.run_eql_slice_nil Tryz.prog
  go_wp2
  go_ret
  exact jw.of (Below.refl _ _) (jf _ _ _ _)
 | some a=>
  go_enter Tryz.func101,Tryz.ntmps101
  have he:= @Lib.run_eql_slice_nil Tryz.prog
  go_wp2_with (at_builtin;refine jC _ rfl (.tmp 5) (.tmp 6) _ rfl w.heap.size 5 i0 _ 1 1 Tryz.underlying58 hi0 hz0 hz1 hz2 rfl oQ (.slice (some ⟨w.heap.size,0,none⟩) 0 0) 0 [] rfl (Fz w 5 1) w.heap.size (some a) n c (byteCells l) rfl (h.alloc (Nat.le_refl _) _) (byteCells_one l) lQ oQ iQ ?_;intro v1 w1 hown1 hg1 KV)
  go_ret
  simp only [Nat.zero_add,List.nil_append] at hown1;exact jw.of (((Below.refl _ w).alloc (Nat.le_refl _) _).grown hg1 iQ (by simp [Value.ownBlock])) hown1
def dn (l:List UInt8) (s:Int):Bool:=decide (l.length<=100000)&&decide (0<=s)&&decide (s<=l.length)
def Hq (l:List UInt8) (s:Int):List UInt8×Int×Bool:=if dn l s=true then (l,s,true) else ([],0,false)
def Ea (w:World) (r:List UInt8×Int×Bool) (e:Ending) (w':World):Prop:=
 ∃ A c,e= .returned (.tuple #[.agg #[.slice A r.1.length c,.int .i64 r.2.1],.bool r.2.2])/\Below w.heap.size w w'/\w'.ownsRow w.heap.size 5 1 (.slice A r.1.length c) r.1.length (byteCells r.1)
theorem Ea.no (w:World) {o:Obj} {o':Obj} (W:World) (hW:W=(w.alloc o).alloc o'):Below w.heap.size w W:=by
 subst hW
 go_grown
theorem ad6 (A:Option Addr) (n c:Nat) (l:List UInt8) (s:Int) (w:World) (h:Rd w w.heap.size 1 A n (byteCells l)) (h1:0<=s) (h2:s<=n) (h3:n<=100000):
  Calls Tryz.prog 73 #[.agg #[.slice A n c,.int .i64 s]] w (Ea w (l,s,true)):=by
 have HL:=Lib.hid h.nE;have H:=Lib.hid h;clear h
 go_enter Tryz.func73,Tryz.ntmps73
 go_wp2
 go_region_with (go_at_call 101;refine (OW A n c l _ (by exact H.out.on gQ) hQ).mono ?_;rintro e w1 ⟨A1,c1,rfl,hb1,hown1⟩;obtain ⟨hc1,hf1⟩:=Cj hb1)
 all_goals (have hz1:=hb1.size;simp at hz1)
 all_goals go_wp2
 all_goals refine bodyPost_ret (v:= .tuple #[.agg #[.slice A1 n c1,.int .i64 s],.bool true]) (by simp [results,Tryz.results73,go_sem,hc1]) rfl ?_
 all_goals (have hB:Below w.heap.size w w1:=Below.trans gQ (hb1.mono jQ))
 all_goals (obtain rfl:=HL.out)
 all_goals exact ⟨A1,c1,rfl,by go_grown,(ownsRow_setCell_below (ownsRow_setCell_below (base:=w.heap.size+1+1) (hown1.lower iQ) iQ _) iQ _).lower oQ⟩
theorem aik (A:Option Addr) (n c:Nat) (s:Int) (w:World) (hno:s<0\/(n:Int)<s\/100000<n):
  Calls Tryz.prog 73 #[.agg #[.slice A n c,.int .i64 s]] w (Ea w ([],0,false)):=by
 by_cases h1:s<0
 ·clear hno
  go_enter Tryz.func73,Tryz.ntmps73
  go_wp2
  refine bodyPost_ret (v:= .tuple #[.agg #[.slice none 0 0,.int .i64 0],.bool false]) (by simp [results,Tryz.results73,go_sem]) rfl ?_;exact ⟨none,0,rfl,by go_grown,jf _ _ _ _⟩
 by_cases h2:(n:Int)<s
 ·have h1':0<=s:=oQ;clear hno h1
  go_enter Tryz.func73,Tryz.ntmps73
  go_wp2
  refine bodyPost_ret (v:= .tuple #[.agg #[.slice none 0 0,.int .i64 0],.bool false]) (by simp [results,Tryz.results73,go_sem]) rfl ?_;exact ⟨none,0,rfl,by go_grown,jf _ _ _ _⟩
 have h1':0<=s:=oQ;have h2':s<=n:=oQ;have h3:100000<n:=oQ;clear hno h1 h2
 go_enter Tryz.func73,Tryz.ntmps73
 go_wp2
 refine bodyPost_ret (v:= .tuple #[.agg #[.slice none 0 0,.int .i64 0],.bool false]) (by simp [results,Tryz.results73,go_sem]) rfl ?_;exact ⟨none,0,rfl,by go_grown,jf _ _ _ _⟩
theorem Bd {l:List UInt8} {s:Int} (h1:0<=s) (h2:s<=l.length) (h3:l.length<=100000):Hq l s=(l,s,true):=if_pos (by simp [dn,h1,h2,h3])
theorem ad7 {l:List UInt8} {s:Int} (h:s<0\/(l.length:Int)<s\/100000<l.length):Hq l s=([],0,false):=if_neg (by simp [dn];omega)
theorem lW (A:Option Addr) (n c:Nat) (l:List UInt8) (s:Int) (w:World) (h:Rd w w.heap.size 1 A n (byteCells l)):
  Calls Tryz.prog 73 #[.agg #[.slice A n c,.int .i64 s]] w (Ea w (Hq l s)):=by
 have hl:=h.nE;by_cases hok:0<=s/\s<=n/\n<=100000
 ·rw [Bd hok.1 oQ oQ];exact ad6 A n c l s w h hok.1 hok.2.1 hok.2.2
 rw [ad7 oQ];exact aik A n c s w oQ
structure Pl where
 node:Int
 epoch:Int
 deriving DecidableEq
structure Dir where
 p0:Pl
 p1:Pl
 p2:Pl
 p3:Pl
 deriving DecidableEq
def Dir.cells (d:Dir):List Value:=[.int .i64 d.p0.node,.int .i64 d.p0.epoch,.int .i64 d.p1.node,.int .i64 d.p1.epoch,.int .i64 d.p2.node,.int .i64 d.p2.epoch,.int .i64 d.p3.node,.int .i64 d.p3.epoch]
def Dir.val (d:Dir):Value:= .agg #[.int .i64 d.p0.node,.int .i64 d.p0.epoch,.int .i64 d.p1.node,.int .i64 d.p1.epoch,.int .i64 d.p2.node,.int .i64 d.p2.epoch,.int .i64 d.p3.node,.int .i64 d.p3.epoch]
def Dir.at (d:Dir):Nat->Pl
 | 0=>d.p0
 | 1=>d.p1
 | 2=>d.p2
 | _=>d.p3
def Dir.set (d:Dir) (k:Nat) (p:Pl):Dir:=
 match k with
 | 0=>{ d with p0:=p }
 | 1=>{ d with p1:=p }
 | 2=>{ d with p2:=p }
 | _=>{ d with p3:=p }
def mW:Pl:=⟨0,0⟩
def nowhere:Pl:=⟨-1,0⟩
def kH:Dir:=⟨mW,mW,mW,mW⟩
def zl (p:Pl):Prop:=(p.node= -1/\p.epoch=0)\/(0<=p.node/\p.node<=4/\1<=p.epoch/\p.epoch<=1048576)
open Classical in
noncomputable def gI (d:Dir):Int:=if ∀ k,k<4->zl (d.at k) then 0 else 6
theorem OY {d:Dir} {k:Nat} (hk:k<4) (h: ¬ zl (d.at k)):gI d=6:=if_neg (λh'=>h (h' k hk))
theorem Sd {d:Dir} (h: ∀ k,k<4->zl (d.at k)):gI d=0:=if_pos h
theorem LV {d:Dir} (h:gI d=0): ∀ k,k<4->zl (d.at k):=by
 unfold gI at h
 split at h
 ·assumption
 cases h
theorem Kj (a b:Pl):dU [.int .i64 a.node,.int .i64 a.epoch] [.int .i64 b.node,.int .i64 b.epoch]=decide (a=b):=by
 have:=yG (xs:=[a.node,a.epoch]) (ys:=[b.node,b.epoch]) rfl;simp only [List.map_cons,List.map_nil] at this;rw [this,Bool.eq_iff_iff];obtain ⟨a1,a2⟩:=a;obtain ⟨b1,b2⟩:=b;simp
theorem XB:flat Tryz.prog 30 32=some (List.replicate 2 (.at_ (.int .i64))):=kQ
theorem XC:FI Tryz.prog 30 32=true:=kQ
theorem acA (xs:List Value):mkV Tryz.prog 32 xs= .agg xs.toArray:=by
 unfold mkV;rw [Tryz.underlying32]
theorem Kk (a b:Pl) (w:World):(binOp .eql 32 (.agg #[.int .i64 a.node,.int .i64 a.epoch]) (.agg #[.int .i64 b.node,.int .i64 b.epoch])).run Tryz.prog w= .ok (.bool (decide (a=b))) w:=by
 rw [<-Kj];exact CJ (P:=Tryz.prog) w XB XC acA (xE [a.node,a.epoch]) (xE [b.node,b.epoch])
theorem VW (a b:Pl) (w:World):(binOp .neq 32 (.agg #[.int .i64 a.node,.int .i64 a.epoch]) (.agg #[.int .i64 b.node,.int .i64 b.epoch])).run Tryz.prog w= .ok (.bool (!decide (a=b))) w:=by
 rw [<-Kj];exact rT (P:=Tryz.prog) w XB XC acA (xE [a.node,a.epoch]) (xE [b.node,b.epoch])
theorem YS (n0 e0 n1 e1 n2 e2 n3 e3:Int) (w:World):(Instr.index 33 (.agg #[.int .i64 n0,.int .i64 e0,.int .i64 n1,.int .i64 e1,.int .i64 n2,.int .i64 e2,.int .i64 n3,.int .i64 e3]) (.int .i64 0)).run Tryz.prog w= .ok (.agg #[.int .i64 n0,.int .i64 e0]) w:=kQ
theorem YT (n0 e0 n1 e1 n2 e2 n3 e3:Int) (w:World):(Instr.index 33 (.agg #[.int .i64 n0,.int .i64 e0,.int .i64 n1,.int .i64 e1,.int .i64 n2,.int .i64 e2,.int .i64 n3,.int .i64 e3]) (.int .i64 1)).run Tryz.prog w= .ok (.agg #[.int .i64 n1,.int .i64 e1]) w:=kQ
theorem YU (n0 e0 n1 e1 n2 e2 n3 e3:Int) (w:World):(Instr.index 33 (.agg #[.int .i64 n0,.int .i64 e0,.int .i64 n1,.int .i64 e1,.int .i64 n2,.int .i64 e2,.int .i64 n3,.int .i64 e3]) (.int .i64 2)).run Tryz.prog w= .ok (.agg #[.int .i64 n2,.int .i64 e2]) w:=kQ
theorem YV (n0 e0 n1 e1 n2 e2 n3 e3:Int) (w:World):(Instr.index 33 (.agg #[.int .i64 n0,.int .i64 e0,.int .i64 n1,.int .i64 e1,.int .i64 n2,.int .i64 e2,.int .i64 n3,.int .i64 e3]) (.int .i64 3)).run Tryz.prog w= .ok (.agg #[.int .i64 n3,.int .i64 e3]) w:=kQ
theorem ad8 (d:Dir) (k:Nat) (hk:k<4) (w:World):(Instr.index 33 (.agg #[.int .i64 d.p0.node,.int .i64 d.p0.epoch,.int .i64 d.p1.node,.int .i64 d.p1.epoch,.int .i64 d.p2.node,.int .i64 d.p2.epoch,.int .i64 d.p3.node,.int .i64 d.p3.epoch]) (.int .i64 k)).run Tryz.prog w= .ok (.agg #[.int .i64 (d.at k).node,.int .i64 (d.at k).epoch]) w:=by
 have h:k=0\/k=1\/k=2\/k=3:=oQ
 rcases h with rfl | rfl | rfl | rfl
 ·exact YS _ _ _ _ _ _ _ _ w
 ·exact YT _ _ _ _ _ _ _ _ w
 ·exact YU _ _ _ _ _ _ _ _ w
 exact YV _ _ _ _ _ _ _ _ w
structure Nw (w:World):Prop where
 c0:w.cell? ⟨0,0,none⟩=some (.int .i64 (-1))
 c1:w.cell? ⟨0,1,none⟩=some (.int .i64 0)
 lt:0<w.heap.size
theorem Nw.on {w w':World} (h:Nw w) (hb:Below w.heap.size w w'):Nw w':=
 ⟨(hb.cell (p:=⟨0,0,none⟩) h.lt).trans h.c0,(hb.cell (p:=⟨0,1,none⟩) h.lt).trans h.c1,Nat.lt_of_lt_of_le h.lt hb.size⟩
def atD (w:World) (k:Int) (e:Ending) (w':World):Prop:=e= .returned (.int .i64 k)/\Below w.heap.size w w'
def acB (w:World) (r:Pl×Int) (e:Ending) (w':World):Prop:=e= .returned (.tuple #[.agg #[.int .i64 r.1.node,.int .i64 r.1.epoch],.int .i64 r.2])/\Below w.heap.size w w'
def XD (w:World) (r:Dir×Int) (e:Ending) (w':World):Prop:=e= .returned (.tuple #[r.1.val,.int .i64 r.2])/\Below w.heap.size w w'
theorem OZ (d:Dir) (w:World) (hn:Nw w):Calls Tryz.prog 124 #[d.val] w (atD w (gI d)):=by
 have HN:=Lib.hid hn;have HI:=Lib.hid (ad8 d);have HF:=Lib.hid (λk hk h=>OY (d:=d) (k:=k) hk h);have H0:=Lib.hid (Sd (d:=d));clear hn;generalize gI d=z at HF H0⊢;have hat:=Lib.hid (rfl:d.at=d.at);generalize d.at=f at HI HF H0 hat;clear hat;obtain ⟨⟨n0,e0⟩,⟨n1,e1⟩,⟨n2,e2⟩,⟨n3,e3⟩⟩:=d;unfold Dir.val;simp only at HI⊢
 go_enter Tryz.func124,Tryz.ntmps124
 go_wp2_with fail
 go_loopw [7] (λi wr=> ∃ k:Nat,k<=4/\i= .int .i64 k/\(∀ j,j<k->zl (f j))/\Below w.heap.size w wr) (λi _=>4-(intOf i).toNat)
 case atStart=>exact ⟨0,by omega,rfl,λj hj=>absurd hj oQ,by go_grown⟩
 case round=>
  obtain ⟨k,hk,rfl,hall,hb⟩:=hrel;have hsz:w.heap.size<=wr.heap.size:=hb.size;have HB:=Lib.hid hb;have HA:=Lib.hid hall;by_cases hlt:k<4
  ·have hi:=HI.out k hlt;have HFk:=Lib.hid (HF.out k hlt);have HQ:Hid (zl (f k)-> ∀ j,j<k+1->zl (f j)):=Lib.hid (λh j hj=>by
    by_cases e:j=k
    ·rw [e];exact h
    exact HA.out j oQ)
   obtain ⟨g0,g1,g2⟩:=HN.out.on hb;generalize f k=p at hi HFk HQ;have hq:=Kk p nowhere;unfold nowhere at hq;simp only at hq;clear hall;by_cases hp:p=⟨-1,0⟩
   ·have HG:=Lib.hid (HQ.out (by rw [hp];exact .inl ⟨rfl,rfl⟩));have hd:decide (p=⟨-1,0⟩)=true:=by simpa using hp
    rw [hd] at hq;clear hp hd;obtain ⟨pn,pe⟩:=p;simp only at hi hq
    go_wp2_with fail
    go_roundw
    case rel=>exact ⟨k+1,by omega,by go_num,HG.out,by go_grown⟩
    case measure=>simp [intOf];omega
   have hd:decide (p=⟨-1,0⟩)=false:=by simpa using hp
   rw [hd] at hq;clear hd;obtain ⟨pn,pe⟩:=p;simp only [Pl.mk.injEq] at hi hq hp;have HP:=Lib.hid hp;clear hp;by_cases b1:pn<0
   ·have hp:=HP.out;have e:=HFk.out (by unfold zl;simp only;omega);subst e
    go_wp2_with fail
    go_ret
    exact ⟨rfl,by go_grown⟩
   by_cases b2:5<=pn
   ·have e:=HFk.out (by unfold zl;simp only;omega);subst e
    go_wp2_with fail
    go_ret
    exact ⟨rfl,by go_grown⟩
   by_cases b3:pe<1
   ·have e:=HFk.out (by unfold zl;simp only;omega);subst e
    go_wp2_with fail
    go_ret
    exact ⟨rfl,by go_grown⟩
   by_cases b4:1048576<pe
   ·have e:=HFk.out (by unfold zl;simp only;omega);subst e
    go_wp2_with fail
    go_ret
    exact ⟨rfl,by go_grown⟩
   have HG:=Lib.hid (HQ.out (by unfold zl;simp only;omega))
   go_wp2_with fail
   go_roundw
   case rel=>exact ⟨k+1,by omega,by go_num,HG.out,by go_grown⟩
   case measure=>simp [intOf];omega
  obtain rfl:k=4:=oQ;have e:=H0.out HA.out;subst e;clear hall
  go_wp2_with fail
  go_ret
  exact ⟨rfl,by go_grown⟩
noncomputable def qL (d:Dir) (q:Int):Pl×Int:=if gI d≠0 then (mW,gI d) else if q<0\/3<q then (mW,2) else (d.at q.toNat,0)
noncomputable def bO (d:Dir) (q:Int):Pl×Int:=if (qL d q).2=0/\(qL d q).1=nowhere then (mW,7) else qL d q
theorem Kl {d:Dir} {q:Int} (h:gI d≠0):qL d q=(mW,gI d):=if_pos h
theorem Km {d:Dir} {q:Int} (h:gI d=0) (hq:q<0\/3<q):qL d q=(mW,2):=by
 unfold qL;rw [if_neg oQ,if_pos hq]
theorem XE {d:Dir} {q:Int} (h:gI d=0) (hq: ¬ (q<0\/3<q)):qL d q=(d.at q.toNat,0):=by
 unfold qL;rw [if_neg oQ,if_neg hq]
theorem O1 {d:Dir} {q:Int} (h:gI d≠0):bO d q=(mW,gI d):=by
 unfold bO;rw [Kl h,if_neg (λhh=>h hh.1)]
theorem O4 {d:Dir} {q:Int} (h:gI d=0) (hq:q<0\/3<q):bO d q=(mW,2):=by
 unfold bO;rw [Km h hq,if_neg (λhh=>by cases hh.1)]
theorem Sg {d:Dir} {q:Int} (h:gI d=0) (hq: ¬ (q<0\/3<q)) (hn:d.at q.toNat=nowhere):bO d q=(mW,7):=by
 unfold bO;rw [XE h hq,if_pos ⟨rfl,hn⟩]
theorem Si {d:Dir} {q:Int} (h:gI d=0) (hq: ¬ (q<0\/3<q)) (hn:d.at q.toNat≠nowhere):bO d q=(d.at q.toNat,0):=by
 unfold bO;rw [XE h hq,if_neg (λhh=>hn hh.2)]
theorem MN (d:Dir) (q:Int) (w:World) (hn:Nw w):Calls Tryz.prog 93 #[d.val,.int .i64 q] w (acB w (qL d q)):=by
 have HN:=Lib.hid hn;have HC:=Lib.hid (λw h=>OZ d w h);have HR0:Hid (∀ r,r=qL d q->r=if gI d≠0 then (mW,gI d) else if q<0\/3<q then (mW,2) else (d.at q.toNat,0)):=Lib.hid (λr h=>h);generalize hr:qL d q=r;have HR:=Lib.hid (HR0.out r hr.symm);clear hn hr HR0;generalize gI d=z at HC HR;obtain ⟨⟨n0,e0⟩,⟨n1,e1⟩,⟨n2,e2⟩,⟨n3,e3⟩⟩:=d;unfold Dir.val at*;simp only at HC⊢
 go_enter Tryz.func93,Tryz.ntmps93
 go_wp2_with fail
 refine (HC.out _ (HN.out.on gQ)).mono ?_;rintro e w1 ⟨rfl,hb1⟩;have B0:=((fK.new w _ _).alloc _).below hb1 jQ;have B1:=(fK.new1 w _ _ _).below hb1 iQ;obtain ⟨c0,c1,c2,c3,c4,c5,c6,c7,cf⟩:=B0.BM;obtain ⟨r0,r1,rf⟩:=B1.uW;have hz0:w.heap.size<w1.heap.size:=B0.lt;have hz1:w.heap.size+1<w1.heap.size:=B1.lt;have HB:Hid (Below w.heap.size w w1):=Lib.hid (Below.trans gQ (hb1.mono jQ));clear hb1;by_cases hz:z=0
 ·subst hz;by_cases q0:q<0
  ·have e:=HR.out;rw [if_neg oQ,if_pos oQ] at e;subst e
   go_wp2_with fail
   refine bodyPost_ret (v:= .tuple #[.agg #[.int .i64 0,.int .i64 0],.int .i64 2]) (by simp [results,Tryz.results93,go_sem,r0,r1]) rfl ?_;have hB:=HB.out;exact ⟨rfl,by go_grown⟩
  by_cases q4:4<=q
  ·have e:=HR.out;rw [if_neg oQ,if_pos oQ] at e;subst e
   go_wp2_with fail
   refine bodyPost_ret (v:= .tuple #[.agg #[.int .i64 0,.int .i64 0],.int .i64 2]) (by simp [results,Tryz.results93,go_sem,r0,r1]) rfl ?_;have hB:=HB.out;exact ⟨rfl,by go_grown⟩
  rcases (show q=0\/q=1\/q=2\/q=3 by omega) with rfl | rfl | rfl | rfl
  ·have e:=HR.out;rw [if_neg oQ,if_neg oQ] at e;subst e
   go_wp2_with fail
   refine bodyPost_ret (v:= .tuple #[.agg #[.int .i64 n0,.int .i64 e0],.int .i64 0]) (by simp [results,Tryz.results93,go_sem,r0,r1]) rfl ?_;have hB:=HB.out;exact ⟨rfl,by go_grown⟩
  ·have e:=HR.out;rw [if_neg oQ,if_neg oQ] at e;subst e
   go_wp2_with fail
   refine bodyPost_ret (v:= .tuple #[.agg #[.int .i64 n1,.int .i64 e1],.int .i64 0]) (by simp [results,Tryz.results93,go_sem,r0,r1]) rfl ?_;have hB:=HB.out;exact ⟨rfl,by go_grown⟩
  ·have e:=HR.out;rw [if_neg oQ,if_neg oQ] at e;subst e
   go_wp2_with fail
   refine bodyPost_ret (v:= .tuple #[.agg #[.int .i64 n2,.int .i64 e2],.int .i64 0]) (by simp [results,Tryz.results93,go_sem,r0,r1]) rfl ?_;have hB:=HB.out;exact ⟨rfl,by go_grown⟩
  have e:=HR.out;rw [if_neg oQ,if_neg oQ] at e;subst e
  go_wp2_with fail
  refine bodyPost_ret (v:= .tuple #[.agg #[.int .i64 n3,.int .i64 e3],.int .i64 0]) (by simp [results,Tryz.results93,go_sem,r0,r1]) rfl ?_;have hB:=HB.out;exact ⟨rfl,by go_grown⟩
 have e:=HR.out;rw [if_pos hz] at e;subst e
 go_wp2_with fail
 refine bodyPost_ret (v:= .tuple #[.agg #[.int .i64 0,.int .i64 0],.int .i64 z]) (by simp [results,Tryz.results93,go_sem,r0,r1]) rfl ?_;have hB:=HB.out;exact ⟨rfl,by go_grown⟩
theorem YW {d:Dir} {q:Int} (h:(qL d q).2=0):0<=q/\q<=3:=by
 by_cases hf:gI d=0
 ·by_cases hq:q<0\/3<q
  ·rw [Km hf hq] at h
   cases h
  exact ⟨by omega,by omega⟩
 rw [Kl hf] at h;exact absurd h hf
noncomputable def wV (d:Dir) (q node:Int):Dir×Int:=
 if (qL d q).2≠0 then (kH,(qL d q).2) else if node<0\/4<node then (kH,2) else if (qL d q).1≠nowhere then (kH,8) else (d.set q.toNat ⟨node,1⟩,0)
theorem Gy {d:Dir} {q:Int} (h:(bO d q).2=0):0<=q/\q<=3/\(bO d q).1=d.at q.toNat/\(bO d q).1≠nowhere/\zl (bO d q).1:=by
 by_cases hf:gI d=0
 ·by_cases hq:q<0\/3<q
  ·rw [O4 hf hq] at h
   cases h
  by_cases hn:d.at q.toNat=nowhere
  ·rw [Sg hf hq hn] at h
   cases h
  rw [Si hf hq hn];exact ⟨by omega,by omega,rfl,hn,LV hf _ oQ⟩
 rw [O1 hf] at h;exact absurd h hf
noncomputable def Lh (d:Dir) (q epoch node:Int):Dir×Int:=
 if (bO d q).2≠0 then (kH,(bO d q).2) else if node<0\/4<node then (kH,2) else if (bO d q).1.epoch≠epoch then (kH,15)
 else if (bO d q).1.node=node then (kH,8) else if epoch=1048576 then (kH,14) else (d.set q.toNat ⟨node,epoch+1⟩,0)
theorem nu (d:Dir) (q:Int) (w:World) (hn:Nw w):Calls Tryz.prog 72 #[d.val,iV q] w (acB w (bO d q)):=by
 have HN:=Lib.hid hn;have HC:=Lib.hid (λw h=>MN d q w h);have HR:Hid (bO d q=if (qL d q).2=0/\(qL d q).1=nowhere then (mW,7) else qL d q):=Lib.hid rfl;clear hn;generalize bO d q=r at*;generalize qL d q=a at*;obtain ⟨⟨pn,pe⟩,z⟩:=a;have hq:=Kk ⟨pn,pe⟩ nowhere;unfold nowhere at hq;simp only at hq;obtain ⟨⟨n0,e0⟩,⟨n1,e1⟩,⟨n2,e2⟩,⟨n3,e3⟩⟩:=d;unfold Dir.val at*;simp only at HC HR⊢
 go_enter Tryz.func72,Tryz.ntmps72
 go_wp2_with fail
 refine (HC.out _ (HN.out.on gQ)).mono ?_;rintro e w1 ⟨rfl,hb1⟩;have B1:=(fK.new1 w _ _ _).below hb1 iQ;obtain ⟨r0,r1,rf⟩:=B1.uW;have hz1:w.heap.size+1<w1.heap.size:=B1.lt;have HB:Hid (Below w.heap.size w w1):=Lib.hid (Below.trans gQ (hb1.mono jQ));obtain ⟨g0,g1,g2⟩:=HN.out.on HB.out;clear hb1;by_cases hz:z=0
 ·by_cases hp:(⟨pn,pe⟩:Pl)=nowhere
  ·have e:=HR.out;rw [if_pos ⟨hz,hp⟩] at e;subst e;subst hz;have hd:decide ((⟨pn,pe⟩:Pl)=⟨-1,0⟩)=true:=by simpa [nowhere] using hp
   rw [hd] at hq;clear hp hd
   go_wp2_with fail
   refine bodyPost_ret (v:= .tuple #[.agg #[iV 0,iV 0],iV 7]) (by simp [results,Tryz.results72,go_sem,World.cell?_alloc_lt,hz1,r0,r1]) rfl ?_;have hB:=HB.out;exact ⟨rfl,by go_grown⟩
  have e:=HR.out;rw [if_neg (λh=>hp h.2)] at e;subst e;subst hz;have hd:decide ((⟨pn,pe⟩:Pl)=⟨-1,0⟩)=false:=by simpa [nowhere] using hp
  rw [hd] at hq;clear hp hd
  go_wp2_with fail
  refine bodyPost_ret (v:= .tuple #[.agg #[iV pn,iV pe],iV 0]) (by simp [results,Tryz.results72,go_sem,World.cell?_alloc_lt,hz1,r0,r1]) rfl ?_;have hB:=HB.out;exact ⟨rfl,by go_grown⟩
 have e:=HR.out;rw [if_neg (λh=>hz h.1)] at e;subst e;have hz':(z==0)=false:=by simpa using hz
 clear hq
 go_wp2_with fail
 refine bodyPost_ret (v:= .tuple #[.agg #[iV pn,iV pe],iV z]) (by simp [results,Tryz.results72,go_sem,World.cell?_alloc_lt,hz1,r0,r1]) rfl ?_;have hB:=HB.out;exact ⟨rfl,by go_grown⟩
end
section
open ChangeShapes WideShapes ChangeAt RowKit
theorem ail:ownKnob Tryz.prog.godebug=none:=kQ
theorem ad9:Tryz.prog.globalNamed "berthshift/directory.nowhere" =some 0:=kQ
theorem O5:(Tryz.prog.globals[0]?).map (·.type)=some 32:=kQ
theorem lt_of_cell {w:World} {p:Addr} {u:Value} (h:w.cell? p=some u):p.block<w.heap.size:=by
 rcases Nat.lt_or_ge p.block w.heap.size with h1 | h1
 ·exact h1
 have h2:w.heap[p.block]? =none:=Array.getElem?_eq_none h1;simp [World.cell?,h2] at h
section
variable {H:Type} {enc:TypeId×Value->H} {P:Program}
theorem KW {f:FuncId} {fn:Func} {s:ChangeSpec} {bt:TypeId} (hts:Xf P fn.params.toList=true) (hvars:s.vars=[]) (hres:fn.resultTypes= #[bt]) (hbt:P.underlying bt=some .bool)
  (hs: ∀ ds:List (DataW H),ds.length=fn.params.toList.length->s.fn H ds={ results:=[.lit (.bool true)],args:=ds })
  (W:World) (base:Nat) (args:Array Value) (ds gs:List (DataW H)) (before:List MemPlace)
  (walk:dW (Uv P W) args.toList fn.params.toList->Calls P f args W λe W'=>e= .returned (.bool true)/\Below W.heap.size W W')
  (hval: ∀ (j:Nat) t v,fn.params[j]? =some t->args[j]? =some v->Value.okWide P W .any base t v)
  (hW:DataW.Whole enc P fn.params.toList s.vars false W args.toList ds gs before)
  (hz:(DataW.weightsEach P (fn.params.toList++s.plain.varTypes P) (ds++gs)).all (· <=reachBytes)=true):
  Calls P f args W λe W'=> ∃ v,e= .returned v/\s.post enc P fn false true false false W args v W':=by
 simp only [Xf,Bool.and_eq_true,List.all_eq_true,decide_eq_true_eq] at hts;obtain ⟨hl,hts⟩:=hts;have hW':=hW;have hlt:=hW.lt;obtain ⟨p,q,hA,hV,rfl,_,_⟩:=hW;rw [hvars] at hV;have hg:gs=[]/\q=[]:=by
  cases gs with
  | nil=>exact ⟨rfl,hV⟩
  | cons g gs=>exact hV.elim
 obtain ⟨rfl,rfl⟩:=hg;have hvt:s.plain.varTypes P=[]:=by unfold DataSpec.varTypes ChangeSpec.plain;simp [hvars]
 rw [hvt,List.append_nil,List.append_nil] at hz;have hzz: ∀ b∈DataW.weightsEach P fn.params.toList ds,b<=reachBytes:=λb hb=>by simpa using List.all_eq_true.1 hz b hb
 have hargs:=Xe hA (λj t v h1 h2=>hval j t v (by simpa using h1) (by simpa using h2)) (λt ht=>(hts t ht).1.1) hzz (λx hx=>hlt x (List.mem_append.2 (.inl hx)));have hlen:ds.length=fn.params.toList.length:=by
  have: ∀ {ts:List TypeId} {vs:List Value} {ds:List (DataW H)} {ps:List MemPlace},DataW.TrodAll enc P W 0 (λ_=>true) true ts vs ds ps->ds.length=ts.length:=by
   intro ts
   induction ts with
   | nil=>intro vs ds ps h;obtain ⟨_,rfl,_⟩:=trodAll_nil h;rfl
   | cons t ts ih=>
    intro vs ds ps h;obtain ⟨v,vs',d,ds',p,q,rfl,rfl,rfl,h0,h1⟩:=trodAll_cons h;simp [ih h1]
  exact this hA
 refine (walk hargs).mono λe W' ⟨he,hb⟩=>?_;have hsd:=hs (ds++[]) (by simpa using hlen);refine ⟨_,he,ds,[],p++[],[],p,[],hW',?_,?_,?_,hb.frame _,λh=>by cases h⟩
 ·rw [hsd,hres];exact trodAll_mk1 (shut_bool hbt true)
 ·rw [hsd];simp only [List.append_nil];exact CG hl hb hA (λt ht=>⟨(hts t ht).1.2,(hts t ht).2⟩) (λx hx=>hlt x (List.mem_append.2 (.inl hx)))
 rw [hsd,hvars];simp [DataW.TrodVars]
end
end
section
open ChangeShapes WideShapes RowKit
def aea (w:World) (e:Ending) (w':World):Prop:=e= .returned (.agg #[.int .i64 (-1),.int .i64 0,.int .i64 (-1),.int .i64 0,.int .i64 (-1),.int .i64 0,.int .i64 (-1),.int .i64 0])/\Below w.heap.size w w'
def Li:Nat->Array Value
 | 0=> #[.int .i64 0,.int .i64 0,.int .i64 0,.int .i64 0,.int .i64 0,.int .i64 0,.int .i64 0,.int .i64 0]
 | k+1=>((Li k).setIfInBounds (k*2) (.int .i64 (-1))).setIfInBounds (k*2+1) (.int .i64 0)
theorem VX (k:Nat):(Li k).size=8:=by
 induction k with
 | zero=>rfl
 | succ k ih=>simp [Li,ih]
theorem MO (k j:Nat) (hj:j<8): ∃ u,(Li k)[j]? =some u:=⟨_,Array.getElem?_eq_getElem (by rw [VX];exact hj)⟩
theorem VY (w:World) (hn:Nw w):Calls Tryz.prog 39 #[] w (aea w):=by
 have HN:=Lib.hid hn;clear hn
 go_enter Tryz.func39,Tryz.ntmps39
 go_wp2_with fail
 go_loopw [3] (λi wr=> ∃ k:Nat,k<=4/\i= .int .i64 k/\fK wr w.heap.size #[.int .i64 0,.int .i64 0,.int .i64 0,.int .i64 0,.int .i64 0,.int .i64 0,.int .i64 0,.int .i64 0] 35/\fK wr (w.heap.size+1) (Li k) 35/\Below w.heap.size w wr) (λi _=>4-(intOf i).toNat)
 case atStart=>exact ⟨0,by omega,rfl,(fK.new _ _ _).alloc _,fK.new1 _ _ _ _,by go_grown⟩
 case round=>
  obtain ⟨k,hk,rfl,h0,h1,hb⟩:=hrel;have hsz:w.heap.size<=wr.heap.size:=hb.size;have H0:=Lib.hid h0;have H1:=Lib.hid h1;have HB:=Lib.hid hb;by_cases hlt:k<4
  ·obtain ⟨g0,g1,g2⟩:=HN.out.on hb;obtain ⟨u,hu⟩:=MO k (k*2) oQ;obtain ⟨u',hu'⟩:=MO k (k*2+1) oQ;have c0:=h1.cell hu;have c1:=h1.cell hu';have cf:=h1.free;clear h0 h1 hb hu hu'
   go_wp2_with fail
   go_roundw
   case rel=>
    have hB:=HB.out;exact ⟨k+1,by omega,by go_num,(H0.out.other _ iQ _).other _ iQ _,(H1.out.vK _ _).vK _ _,by go_grown⟩
   case measure=>simp [intOf];omega
  obtain rfl:k=4:=oQ;have e4:Li 4= #[.int .i64 (-1),.int .i64 0,.int .i64 (-1),.int .i64 0,.int .i64 (-1),.int .i64 0,.int .i64 (-1),.int .i64 0]:=rfl;rw [e4] at h1;clear e4;obtain ⟨c0,c1,c2,c3,c4,c5,c6,c7,cf⟩:=h1.BM;obtain ⟨r0,r1,r2,r3,r4,r5,r6,r7,rf⟩:=h0.BM;clear h0 h1 H1
  go_wp2_with fail
  refine bodyPost_ret (v:= .agg #[.int .i64 (-1),.int .i64 0,.int .i64 (-1),.int .i64 0,.int .i64 (-1),.int .i64 0,.int .i64 (-1),.int .i64 0]) (by simp [results,Tryz.results39,go_sem,r0,r1,r2,r3,r4,r5,r6,r7]) rfl ?_;have hB:=HB.out;exact ⟨rfl,by go_grown⟩
end
end Go.Proofs.YtcomidffhiilcaaGreatDoor
