import Derived.Deep.RegionWith
import Derived.Test.YtlfgjcahpppbbaaGreatDoorCards
import Derived.Test.YtlfgjcahpppbbaaGreatDoorTie
import Derived.Deep.DeepHandedRow
import Derived.Lib.LaidTab
import Derived.Test.YtlfgjcahpppbbaaGreatDoorG67939
set_option maxRecDepth 100000
set_option maxHeartbeats 8000000
set_option linter.unusedSimpArgs false
set_option linter.unusedVariables false
namespace Go.Proofs.YtlfgjcahpppbbaaGreatDoor
section
open ChangeShapes WideShapes RowKit
def bg (l:List Ev):List Value:=l.flatMap Ev.cells
theorem fE (l:List Ev): ∀ u∈bg l,u.oneCell'=true:=by
 intro u hu;simp only [bg,List.mem_flatMap,Ev.cells] at hu;obtain ⟨e,_,hu⟩:=hu;simp only [List.mem_cons,List.not_mem_nil,or_false] at hu
 rcases hu with rfl | rfl | rfl | rfl | rfl | rfl<;>rfl
end
section
theorem K6 (a b:Nat) (ha:a<4611686018427387904) (hb:b<4611686018427387904):bits .or .i64 (a:Int) (b:Int)=((a ||| b:Nat):Int):=by
 have hx:a ||| b<2 ^ 62:=Nat.or_lt_two_pow oQ oQ
 show IntKind.i64.wrap ((BitVec.ofInt 64 (a:Int) ||| BitVec.ofInt 64 (b:Int)).toNat:Int)=_
 rw [BitVec.toNat_or,ofInt_u64 a oQ,ofInt_u64 b oQ,IntKind.wrap_i64];omega
theorem aew (v x i:Nat) (hx:x<2 ^ i):(v*2 ^ i) ||| x=v*2 ^ i+x:=by
 rw [<-Nat.shiftLeft_eq,Nat.shiftLeft_add_eq_or_of_lt hx]
theorem or8 (v x:Int) (h0:0<=v) (h1:v<=1099511627776) (h2:0<=x) (h3:x<=255):bits .or .i64 (v*256) x=v*256+x:=by
 obtain ⟨a,rfl⟩:=Int.eq_ofNat_of_zero_le h0;obtain ⟨b,rfl⟩:=Int.eq_ofNat_of_zero_le h2;have e:((a:Int)*256)=((a*256:Nat):Int):=oQ;have h:=aew a b 8 oQ;rw [e,K6 _ _ oQ oQ];simp only [Nat.reducePow] at h;rw [h];omega
theorem azT (v x:Int) (h0:0<=v) (h1:v<=1099511627776) (h2:0<=x) (h3:x<=65535):bits .or .i64 (v*65536) x=v*65536+x:=by
 obtain ⟨a,rfl⟩:=Int.eq_ofNat_of_zero_le h0;obtain ⟨b,rfl⟩:=Int.eq_ofNat_of_zero_le h2;have e:((a:Int)*65536)=((a*65536:Nat):Int):=oQ;have h:=aew a b 16 oQ;rw [e,K6 _ _ oQ oQ];simp only [Nat.reducePow] at h;rw [h];omega
theorem azU (x:Int) (h2:0<=x) (h3:x<=255):bits .or .i64 0 x=x:=by
 have:=or8 0 x oQ oQ h2 h3;simpa using this
end
section
open ChangeShapes WideShapes ChangeAt RowKit
theorem jo {l:Slots} {x:Operand} {v:Value} (h:ev l x=some v):EvO l (some x) (some v):=h
theorem nO {l:Slots}:EvO l none none:=trivial
theorem aqL {kd:IntKind} {a b:Int} (h:a=b):some (Value.int kd a)=some (Value.int kd b):=by rw [h]
section
variable {P:Program} {w:World} {t e:TypeId} {A:Option Addr} {n c s B:Nat} {xs:List Value} {kd ke kf:IntKind}
theorem p8 {i:Int} (k y:Nat) (code:BoundsCode) (hik:i=k) (hy:k<=y) (w:World):(Instr.sliceBound (.int kd i) y code).run P w= .ok k w:=by
 subst hik;have h1:(0:Int)<=k/\(k:Int)<=y:=oQ;simp [Instr.sliceBound,asIntOf,Sem.run_bind,Result.andThen,h1,hy]
theorem ahX {i:Int} (l:Nat) (hi:i=l) (h:l<=n) (w:World):(Instr.sliceBounds true n c (some (.int kd i)) none none).run P w= .ok (l,n,c) w:=by
 simp [Instr.sliceBounds,Sem.run_bind,Result.andThen,p8 l n _ hi h]
theorem azV {i:Int} (k:Nat) (hi:i=k) (h:k<=c) (w:World):(Instr.sliceBounds true n c none (some (.int kd i)) none).run P w= .ok (0,k,c) w:=by
 simp [Instr.sliceBounds,Sem.run_bind,Result.andThen,p8 k c _ hi h]
theorem Wx {i j:Int} (l k:Nat) (hi:i=l) (hj:j=k) (hlk:l<=k) (h:k<=c) (w:World):(Instr.sliceBounds true n c (some (.int kd i)) (some (.int ke j)) none).run P w= .ok (l,k,c) w:=by
 simp [Instr.sliceBounds,Sem.run_bind,Result.andThen,p8 k c _ hj h,p8 l k _ hi hlk]
theorem amy {j m:Int} (k q:Nat) (hj:j=k) (hm:m=q) (hkq:k<=q) (h:q<=c) (w:World):(Instr.sliceBounds true n c none (some (.int ke j)) (some (.int kf m))).run P w= .ok (0,k,q) w:=by
 simp [Instr.sliceBounds,Sem.run_bind,Result.andThen,p8 q c _ hm h,p8 k q _ hj hkq]
theorem aex {i j m:Int} (l k q:Nat) (hi:i=l) (hj:j=k) (hm:m=q) (hlk:l<=k) (hkq:k<=q) (h:q<=c) (w:World):(Instr.sliceBounds true n c (some (.int kd i)) (some (.int ke j)) (some (.int kf m))).run P w= .ok (l,k,q) w:=by
 simp [Instr.sliceBounds,Sem.run_bind,Result.andThen,p8 q c _ hm h,p8 k q _ hj hkq,p8 l k _ hi hlk]
theorem add_block (a:Addr) (k:Nat):a.block=(a.add k).block:=by
 unfold Addr.add
 split<;>rfl
theorem Cc {lo hi mx:Option Value} {l k q:Nat} (hu:P.underlying t=some (.slice e)) (hz:(P.info? e).map (·.size)=some s) (hb: ∀ w,(Instr.sliceBounds true n c lo hi mx).run P w= .ok (l,k,q) w) (hlk:l<=k) (hkn:k<=n) (hkq:k<=q):
  ∃ A',(∀ w,(Instr.sliceAt t (.slice A n c) lo hi mx).run P w= .ok (.slice A' (k-l) (q-l)) w)/\(∀ (w:World) (B:Nat) (xs:List Value),Rd w B s A n xs->Rd w B s A' (k-l) ((xs.drop (l*s)).take ((k-l)*s)))/\ ∀ a',A'=some a'-> ∃ a,A=some a/\a.block=a'.block:=by
 obtain ⟨z,hq,hs⟩: ∃ z,P.info? e=some z/\z.size=s:=by
  cases h:P.info? e with
  | none=>simp [h] at hz
  | some z=>exact ⟨z,rfl,by simpa [h] using hz⟩
 refine ⟨if q=l then A else A.map (·.add (l*s)),λw=>?_,?_,?_⟩
 ·have h1:(sizeOf e).run P w= .ok s w:=by simp [sizeOf,typeInfo,hq,hs,Sem.run_bind,Result.andThen]
  simp [Instr.sliceAt,Instr.slice,run_underlying hu,Sem.run_bind,Result.andThen,hb,h1]
 ·intro w B xs hR;refine ⟨?_,λhn=>?_⟩
  ·rw [List.length_take,List.length_drop,hR.1,<-Nat.sub_mul];exact Nat.min_eq_left (Nat.mul_le_mul_right _ oQ)
  obtain ⟨b,off,rfl,hb,hcell⟩:=hR.2 oQ;rw [if_neg oQ];refine ⟨b,off+l*s,?_,hb,λj u hu=>?_⟩
  ·simp only [Option.map_some,Option.some.injEq];rw [Go.WideShapes.add_plain]
  rw [Nat.add_assoc];refine hcell _ u ?_;have hj:j< (k-l)*s:=by
   have:=(List.getElem?_eq_some_iff.1 hu).1;rw [List.length_take] at this;omega
  rw [List.getElem?_take_of_lt hj,List.getElem?_drop] at hu;exact hu
 intro a' h
 split at h
 ·exact ⟨a',h,rfl⟩
 cases A with
 | none=>cases h
 | some a=>cases h;exact ⟨a,rfl,add_block a _⟩
theorem aaL {lo hi mx:Option Value} {l k q:Nat} (hu:P.underlying t=some (.slice e)) (hz:(P.info? e).map (·.size)=some s) (hb: ∀ w,(Instr.sliceBounds true n c lo hi mx).run P w= .ok (l,k,q) w) (hR:Rd w B s A n xs) (hlk:l<=k) (hkn:k<=n) (hkq:k<=q):
  ∃ A',(∀ w,(Instr.sliceAt t (.slice A n c) lo hi mx).run P w= .ok (.slice A' (k-l) (q-l)) w)/\Rd w B s A' (k-l) ((xs.drop (l*s)).take ((k-l)*s))/\ ∀ a',A'=some a'-> ∃ a,A=some a/\a.block=a'.block:=by
 obtain ⟨A',h1,h2,h3⟩:=Cc (A:=A) hu hz hb hlk hkn hkq;exact ⟨A',h1,h2 _ _ _ hR,h3⟩
theorem afZ {lo hi mx:Option Value} {l k q:Nat} (hu:P.underlying t=some (.slice e)) (hz:(P.info? e).map (·.size)=some s) (hb: ∀ w,(Instr.sliceBounds true n c lo hi mx).run P w= .ok (l,k,q) w) (hR:Rd w B s A n xs) (hlk:l<=k) (hkn:k<=n) (hkq:k<=q):
  ∃ A',(∀ w,(Instr.sliceAt t (.slice A n c) lo hi mx).run P w= .ok (.slice A' (k-l) (q-l)) w)/\Rd w B s A' (k-l) ((xs.drop (l*s)).take ((k-l)*s)):=by
 obtain ⟨A',h1,h2,_⟩:=aaL hu hz hb hR hlk hkn hkq;exact ⟨A',h1,h2⟩
theorem amA {x y:Int} {ts:Array TypeId} {ty:TypeId} {cs:Array Bool}:(builtin .min ts ty cs #[.int kd x,.int kd y]).run P w= .ok (.value (.int kd (min x y))) w:=by
 have:(if y<x then y else x)=min x y:=by split<;>omega
 simp [builtin,run_min_int2,Sem.run_bind,Result.andThen,this]
theorem VI {x y:Nat} {ts:Array TypeId} {ty:TypeId} {cs:Array Bool}:(builtin .min ts ty cs #[.int kd x,.int kd y]).run P w= .ok (.value (.int kd ((min x y:Nat):Int))) w:=by
 rw [amA,show min (x:Int) (y:Int)=((min x y:Nat):Int) by omega]
theorem zJ {op:BinOp} {xo yo:Operand} {a b:Array Value} {v:Value} (hg:P.eqGuardType P.depth t=false) (h:(binOp op t (.agg a) (.agg b)).run P w= .ok v w):(do eqGuard op t xo yo (.agg a) (.agg b);binOp op t (.agg a) (.agg b):Sem Value).run P w= .ok v w:=by
 have h1:(eqGuard op t xo yo (.agg a) (.agg b)).run P w= .ok () w:=by
  have hp: ∀ w,(program:Sem Program).run P w= .ok P w:=λ_=>rfl;unfold eqGuard
  cases op<;>first | rfl | simp [hp,Sem.run_bind,Result.andThen,hg]
 rw [Sem.run_bind,h1];exact h
theorem aaM {s t:TypeId} {k:IntKind} {x:Int} (hs:(P.underlying s).isSome=true) (ht:P.underlying t=some (.int k)) {z:Int} (hz:k.wrap x=z):(convert s t (.int kd x)).run P w= .ok (.int k z) w:=by
 obtain ⟨ds,hs⟩:=Option.isSome_iff_exists.1 hs;subst hz;simp [convert,Sem.run_bind,run_underlying hs,run_underlying ht,Result.andThen,Conv.intToInt]
theorem u8_in (a:UInt8):0<=(a.toNat:Int)/\(a.toNat:Int)<=255:=by
 have:=a.toNat_lt;omega
theorem Qb {s t:TypeId} {a:UInt8} (hs:P.underlying s=some (.int .u8)) (ht:P.underlying t=some (.int .i64)):(convert s t (.int .u8 (a.toNat:Int))).run P w= .ok (iV (a.toNat:Int)) w:=
 aaM (by rw [hs];rfl) ht (wrap64_in (by have:=u8_in a;omega) (by have:=u8_in a;omega))
theorem aey {xo yo:Operand} {x z:Int} (hz:x*256=z) (h0:0<=x) (h1:x<=1099511627776):(do eqGuard .shl t xo yo (iV x) (.int .u64 8);binOp .shl t (iV x) (.int .u64 8):Sem Value).run P w= .ok (iV z) w:=by
 subst hz;have:IntKind.i64.wrap (x*256)=x*256:=wrap64_in oQ oQ;simp [binOp,eqGuard_shl,shift_shl_i64,this]
theorem awj {xo yo:Operand} {v x z:Int} (hz:v*256+x=z) (h0:0<=v) (h1:v<=1099511627776) (h2:0<=x) (h3:x<=255):(do eqGuard .or t xo yo (iV (v*256)) (iV x);binOp .or t (iV (v*256)) (iV x):Sem Value).run P w= .ok (iV z) w:=by
 subst hz;have:=or8 v x h0 h1 h2 h3;simp [binOp,eqGuard_or,intBits_or,this]
theorem Oe {b:List UInt8} {lo hi mx:Option Value} {l k q m c':Nat} (hu:P.underlying t=some (.slice e)) (hz:(P.info? e).map (·.size)=some 1) (hb: ∀ w,(Instr.sliceBounds true b.length c lo hi mx).run P w= .ok (l,k,q) w) (hR:Rd w B 1 A b.length (byteCells b))
  (hlk:l<=k) (hkn:k<=b.length) (hkq:k<=q) (hm:k-l=m) (hc:q-l=c'): ∃ A',(∀ w,(Instr.sliceAt t (.slice A b.length c) lo hi mx).run P w= .ok (.slice A' m c') w)/\Rd w B 1 A' m (byteCells ((b.drop l).take m)):=by
 subst hm;subst hc;obtain ⟨A',h1,h2⟩:=afZ hu hz hb hR hlk hkn hkq;refine ⟨A',h1,?_⟩;rw [Nat.mul_one,Nat.mul_one] at h2;simpa [byteCells,List.map_drop,List.map_take] using h2
theorem aku {b:List UInt8} {lo hi mx:Option Value} {l k q m c':Nat} (hu:P.underlying t=some (.slice e)) (hz:(P.info? e).map (·.size)=some 1) (hb: ∀ w,(Instr.sliceBounds true b.length c lo hi mx).run P w= .ok (l,k,q) w)
  (hlk:l<=k) (hkn:k<=b.length) (hkq:k<=q) (hm:k-l=m) (hc:q-l=c'): ∃ A',(∀ w,(Instr.sliceAt t (.slice A b.length c) lo hi mx).run P w= .ok (.slice A' m c') w)/\(∀ (w:World) (B:Nat),Rd w B 1 A b.length (byteCells b)->Rd w B 1 A' m (byteCells ((b.drop l).take m)))/\ ∀ a',A'=some a'-> ∃ a,A=some a/\a.block=a'.block:=by
 subst hm;subst hc;obtain ⟨A',h1,h2,h3⟩:=Cc (A:=A) hu hz hb hlk hkn hkq;refine ⟨A',h1,λw B hR=>?_,h3⟩
 replace h2:=h2 w B _ hR
 rw [Nat.mul_one,Nat.mul_one] at h2;simpa [byteCells,List.map_drop,List.map_take] using h2
end
end
section
open ChangeShapes WideShapes RowKit
def awk:List Sh:=[.at_ (.int .i64),.at_ .bool,.at_ .bool,.at_ .bool,.at_ .bool,.at_ .bool,.at_ .bool,.at_ .bool,.at_ .bool]
theorem kK.kd (a:kK):dR Kd a.cells awk:=⟨⟨_,rfl⟩,⟨_,rfl⟩,⟨_,rfl⟩,⟨_,rfl⟩,⟨_,rfl⟩,⟨_,rfl⟩,⟨_,rfl⟩,⟨_,rfl⟩,⟨_,rfl⟩,trivial⟩
class Am (α:Type) where
 size:Nat
 ints:α->List Int
 of:List Int->α
 pos:0<size
 len: ∀ a,(ints a).length=size
 inv: ∀ xs:List Int,xs.length=size->ints (of xs)=xs
section
variable {α:Type} [Am α]
open Am
def rU (a:α):List Value:=(ints a).map (Value.int .i64)
def jX (l:List α):List Value:=l.flatMap rU
theorem xA (a:α):(rU a).length=size α:=by simp [rU,len]
theorem tQ (l:List α):(jX l).length=l.length*size α:=by
 induction l with
 | nil=>simp [jX]
 | cons e l ih=>simp only [jX,List.flatMap_cons,List.length_append,List.length_cons] at*;rw [ih,xA,Nat.succ_mul];omega
theorem FT (l:List α): ∀ u∈jX l,u.oneCell'=true:=by
 intro u hu;simp only [jX,rU,List.mem_flatMap,List.mem_map] at hu;obtain ⟨e,_,x,_,rfl⟩:=hu;rfl
theorem FU {l:List α} {k j:Nat} {a:α} {v:Int} (h:l[k]? =some a) (hj:(ints a)[j]? =some v):(jX l)[k*size α+j]? =some (.int .i64 v):=by
 induction l generalizing k with
 | nil=>simp at h
 | cons x l ih=>
  have e1:jX (x::l)=rU x++jX l:=by simp [jX]
  have hx:=xA x;have hjl:j<size α:=by
   have:=(List.getElem?_eq_some_iff.1 hj).1;rw [len] at this;exact this
  rw [e1]
  cases k with
  | zero=>
   simp at h;subst h;rw [Nat.zero_mul,Nat.zero_add,List.getElem?_append_left oQ];simp [rU,hj]
  | succ k=>
   rw [List.getElem?_append_right (by rw [Nat.succ_mul];omega),hx,show (k+1)*size α+j-size α=k*size α+j by rw [Nat.succ_mul];omega];exact ih (by simpa using h)
variable {w:World} {B n:Nat} {A:Option Addr} {l:List α}
theorem Rd.Qc (h:Rd w B (size α) A n (jX l)):l.length=n:=by
 have:=h.1;rw [tQ] at this;exact Nat.eq_of_mul_eq_mul_right (pos (α:=α)) this
theorem Rd.aqM {k:Nat} (h:Rd w B (size α) A n (jX l)) (hk:k<n): ∃ b off a,A=some ⟨b,off,none⟩/\b<B/\l[k]? =some a/\
  ∀ j v,(ints a)[j]? =some v->w.cell? ⟨b,off+(k*size α+j),none⟩=some (.int .i64 v):=by
 have hl:=h.Qc;obtain ⟨b,off,e,hb,hc⟩:=h.2 oQ;have he:l[k]? =some (l[k]'oQ):=List.getElem?_eq_getElem oQ;exact ⟨b,off,_,e,hb,he,λj v hj=>hc _ _ (FU he hj)⟩
theorem aaN {cs:List Value} {m:Nat} (h:dR Wv cs (List.replicate m (.int .i64))): ∃ xs:List Int,xs.length=m/\cs=xs.map (Value.int .i64):=by
 induction m generalizing cs with
 | zero=>exact ⟨[],rfl,dR.wz h⟩
 | succ m ih=>
  obtain ⟨a,l1,rfl,⟨x,rfl,_⟩,h3⟩:=dR.xB h;obtain ⟨xs,h4,rfl⟩:=ih h3;exact ⟨x::xs,by simp [h4],rfl⟩
theorem aaO {W:World} {v:Value} {b:Nat} (h:Fits W v (.sl b (List.replicate (size α) (.int .i64)))):
  ∃ A n c,∃ l:List α,v= .slice A n c/\Rd W W.heap.size (size α) A n (jX l)/\n<=c/\c<=maxLen/\c*b<=reachBytes/\(A=none->c=0):=by
 have hp:=pos (α:=α)
 rcases h with rfl | ⟨ad,n,c,rfl,hn,hc,hr,hcell⟩
 ·exact ⟨none,0,0,[],rfl,⟨by simp [jX],λh=>absurd h oQ⟩,Nat.le_refl _,Nat.zero_le _,by simp,λ_=>rfl⟩
 have hex: ∀ i,i<n-> ∃ x:α,ad.block<W.heap.size/\ ∀ j u,(rU x)[j]? =some u->W.cell? (ad.add (i*size α+j))=some u:=by
  intro i hi;obtain ⟨cs,h2,hb,hcs⟩:=hcell i hi;obtain ⟨xs,hx,rfl⟩:=aaN h2;rw [List.length_replicate] at hb hcs;refine ⟨of xs,hb hp,λj u hj=>hcs j u ?_⟩;rw [rU,inv xs hx] at hj;exact hj
 have hd: ∃ x:α,True:=⟨of [],trivial⟩;obtain ⟨f,hf⟩: ∃ f:Nat->α,∀ i,i<n->ad.block<W.heap.size/\ ∀ j u,(rU (f i))[j]? =some u->W.cell? (ad.add (i*size α+j))=some u:=by
  refine ⟨λi=>if hi:i<n then Classical.choose (hex i hi) else of [],λi hi=>?_⟩;simp only [hi,dif_pos];exact Classical.choose_spec (hex i hi)
 refine ⟨some ad,n,c,(List.range n).map f,rfl,⟨by rw [tQ];simp,λh0=>?_⟩,hn,hc,hr,λh=>by cases h⟩;obtain ⟨b,off,spot⟩:=ad;have hspot:spot=none:=by
  have h1:(rU (f 0))[0]? =some ((rU (f 0))[0]'(by rw [xA];exact hp)):=List.getElem?_eq_getElem _;simpa [Addr.add] using World.cell?_spot ((hf 0 h0).2 0 _ h1)
 subst hspot;refine ⟨b,off,rfl,(hf 0 h0).1,λj u hu=>?_⟩;have hj:j<n*size α:=by
  have:=(List.getElem?_eq_some_iff.1 hu).1;rw [tQ] at this;simpa using this
 have hk:j / size α<n:=Nat.div_lt_of_lt_mul (by rw [Nat.mul_comm];exact hj);have hm:j % size α<size α:=Nat.mod_lt _ hp;have hg:((List.range n).map f)[j / size α]? =some (f (j / size α)):=by simp [hk]
 have e:j / size α*size α+j % size α=j:=by rw [Nat.mul_comm];exact Nat.div_add_mod j (size α)
 have h7:=(hf (j / size α) hk).2 (j % size α) u;rw [Go.WideShapes.add_plain,e] at h7;refine h7 ?_;have hi:(ints (f (j / size α)))[j % size α]? =some ((ints (f (j / size α)))[j % size α]'(by rw [len];exact hm)):=List.getElem?_eq_getElem _;have h8:=FU hg hi;rw [e,hu] at h8;rw [rU,List.getElem?_map,hi];exact h8.symm
end
theorem zK: ∀ {xs ys:List Int},xs.length=ys.length->dP (xs.map (Value.int .i64)) (ys.map (Value.int .i64))=decide (xs=ys)
 | [],[],_=>by simp [dP]
 | x::xs,y::ys,h=>by
  have ih:=zK (xs:=xs) (ys:=ys) (by simpa using h);simp only [List.map_cons,dP,rT,ih,List.cons.injEq];rw [Bool.eq_iff_iff];simp
 | [],_::_,h=>by simp at h
 | _::_,[],h=>by simp at h
theorem yJ: ∀ (xs:List Int),dR Kd (xs.map (Value.int .i64)) (List.replicate xs.length (.at_ (.int .i64)))
 | []=>trivial
 | _::xs=>⟨⟨_,rfl⟩,yJ xs⟩
end
section
open ChangeShapes WideShapes ChangeAt RowKit ChangeMaps MapKept
open Go.Maps (Keyed IsMap Tidy)
def IY (v:Value):Option (DataW Value×List MemPlace):=some (.held v,[])
def p9 (P:Program) (k:TypeId) (f:Int->Option Value) (n:Nat) (o:Obj):Prop:= ∃ es clock,o= .map es clock/\
 ∀ (w:World) (b:Nat),w.heap[b]? =some o-> ∃ D:DataW Value,w.ownsMap P k IY b n D/\ ∀ z v,f z=some v-> ∀ zd,D.atKey (.int .i64 z) zd= .held v
section
variable {P:Program} {N:Nat} {l:Slots} {w w' w0:World} {B:Nat} {fs:List Fact} {ops:Array Oper} {o:Oper} {rest:List Oper} {Q:Exit->Act->World->Prop} {d:Nat}
theorem Zl {k:TypeId} {f:Int->Option Value} {n b:Nat} {D:DataW Value} (ho:w.ownsMap P k IY b n D) (hf: ∀ z v,f z=some v-> ∀ zd,D.atKey (.int .i64 z) zd= .held v): ∃ o,w.heap[b]? =some o/\p9 P k f n o:=by
 obtain ⟨es,clock,hb,F,hsz,hD⟩:=ho;exact ⟨_,hb,es,clock,rfl,λw2 b2 h2=>⟨D,⟨es,clock,h2,F,hsz,hD⟩,hf⟩⟩
theorem af0 {k:TypeId}:p9 P k (λ_=>none) 0 (.map #[] 0):=by
 have h:=World.ownsMap_made default P k IY;obtain ⟨o,h1,h2⟩:=Zl (f:=λ_=>none) h (λz v hv=>by cases hv);have:(World.alloc default (Obj.map #[] 0)).heap[(default:World).heap.size]? =some (.map #[] 0):=by
  show ((default:World).heap.push _)[_]? =_
  rw [Array.getElem?_push,if_pos rfl]
 rw [this] at h1
 cases h1;exact h2
theorem Kh {t k:TypeId} (S:St B w0 w fs) (hw:Wanted N ops l o true) (hd:o.dst=some d) (hN:Nat.blt d N=true) (ho:o.op= .makeMap t none)
  (h: ∀ b w',St B w0 w' (.loc b (p9 P k (λ_=>none) 0)::fs)->wL P N ops Q rest ((d,.map (some b))::l) w'):wL P N ops Q (o::rest) l w:=
 Qz hw hd hN (NM ho (run_makeMap t w)) (h _ _ (S.Sz af0))
theorem af2 {t:TypeId} {m x y:Operand} {p q r:Value} (ho:o.op= .insert t m x y) (hm:ev l m=some p) (hx:ev l x=some q) (hy:ev l y=some r) (hr:(Instr.mapUpdate t p q r).run P w= .ok () w'):Eff P N l o w w':=λa F=>by
 unfold execOp;simp [ho,F.ev hm,F.ev hx,F.ev hy,hr,Result.andThen]
theorem kG {t k e:TypeId} {m x y:Operand} {b n:Nat} {f:Int->Option Value} {z:Int} {v:Value} (i:Nat) (S:St B w0 w fs) (hw:Wanted N ops l o true) (hd:o.dst=none) (ho:o.op= .insert t m x y) (hm:ev l m=some (.map (some b))) (hx:ev l x=some (.int .i64 z)) (hy:ev l y=some v)
  (hi:fs[i]? =some (.loc b (p9 P k f n))) (hk:P.underlying k=some (.int .i64)) (ht:P.underlying t=some (.map k e)) (hz: -9223372036854775808<=z/\z<=9223372036854775807) (hn:n<maxLen)
  (h: ∀ w',St B w0 w' (fs.set i (.loc b (p9 P k (λy=>if y=z then some v else f y) (n+1))))->wL P N ops Q rest l w'):wL P N ops Q (o::rest) l w:=by
 obtain ⟨ob,hb,es,clock,rfl,hall⟩:=S.loc i hi;obtain ⟨D,hown,hf⟩:=hall w b hb;have K:Keyed P k:=Maps.int_keyed hk;have hkey:keyOf P k (.int .i64 z)=some (.int .i64 z):=Maps.keyOf_int_mk hk (by simp [Lit.wf,IntKind.min,IntKind.max,IntKind.signed,IntKind.bits];omega);obtain ⟨w',hrun,hown',htu⟩:=hown.store K ht hn hkey (d:= .held v) (ps:=[]) rfl;have hlk:WideAt.IsKeyLit (.int .i64 z):=trivial;have hmap:=hown.isMap;obtain ⟨o',ho',hR⟩:=Zl (f:=λy=>if y=z then some v else f y) hown' (λy u hu zd=>by
  by_cases e:y=z
  ·subst e;rw [if_pos rfl] at hu
   cases hu;exact Maps.atKey_put_same hmap hlk _ _
  rw [if_neg e] at hu;rw [Maps.atKey_put_other (by simpa using e)];exact hf y u hu zd)
 have hu:um w b w':=by
  obtain ⟨es1,c1,es2,c2,h1,rfl⟩:=htu;exact ⟨rfl,rfl,rfl,by simp [setBlock],λj hj=>heap_setBlock_other h1 _ hj⟩
 exact NK hw hd (af2 ho hm hx hy hrun) (h _ (S.VB i hi hu ho' hR))
theorem jS {t k e:TypeId} {x y:Operand} {b n:Nat} {f:Int->Option Value} {z:Int} {v u:Value} (i:Nat) (S:St B w0 w fs) (ho:o.op= .lookup t x y false) (hx:ev l x=some (.map (some b))) (hy:ev l y=some (.int .i64 z))
  (hi:fs[i]? =some (.loc b (p9 P k f n))) (hk:P.underlying k=some (.int .i64)) (ht:P.underlying t=some (.map k e)) (hu:(zeroValue e).run P w= .ok u w) (hz: -9223372036854775808<=z/\z<=9223372036854775807) (hf:f z=some v):jy P N l o w v:=λa F=>by
 obtain ⟨ob,hb,es,clock,rfl,hall⟩:=S.loc i hi;obtain ⟨D,hown,hD⟩:=hall w b hb;have K:Keyed P k:=Maps.int_keyed hk;have hkey:keyOf P k (.int .i64 z)=some (.int .i64 z):=Maps.keyOf_int_mk hk (by simp [Lit.wf,IntKind.min,IntKind.max,IntKind.signed,IntKind.bits];omega);obtain ⟨v',ps,hrun,hR⟩:=hown.lookup K ht hu (zd:= .held u) (zp:=[]) rfl hkey;rw [hD z v hf] at hR;simp only [IY,Option.some.injEq,Prod.mk.injEq,DataW.held.injEq] at hR;obtain ⟨rfl,_⟩:=hR;unfold execOp;simp [ho,F.ev hx,F.ev hy,hrun,Result.andThen]
end
end
section
open ChangeShapes WideShapes ChangeAt RowKit
theorem SH {α:Type} {enc:α->List Value} {sz:Nat} (hsz: ∀ x,(enc x).length=sz): ∀ (k:Nat) (l:List α),(l.flatMap enc).drop (k*sz)=(l.drop k).flatMap enc
 | 0,l=>by simp
 | k+1,[]=>by simp
 | k+1,x::l=>by rw [List.flatMap_cons,Nat.succ_mul,Nat.add_comm,<-List.drop_drop,List.drop_left' (hsz x),SH hsz k l];rfl
theorem SI {α:Type} {enc:α->List Value} {sz:Nat} (hsz: ∀ x,(enc x).length=sz): ∀ (k:Nat) (l:List α),(l.flatMap enc).take (k*sz)=(l.take k).flatMap enc
 | 0,l=>by simp
 | k+1,[]=>by simp
 | k+1,x::l=>by rw [List.flatMap_cons,Nat.succ_mul,Nat.add_comm,List.take_append,hsz x,List.take_of_length_le (by rw [hsz x];omega),Nat.add_sub_cancel_left,SI hsz k l];rfl
theorem FV {P:Program} {t e:TypeId} {α:Type} {enc:α->List Value} {s:Nat} (hsz: ∀ x,(enc x).length=s) {A:Option Addr} {b:List α} {n c:Nat} {lo hi mx:Option Value} {l k q m c':Nat} (hu:P.underlying t=some (.slice e)) (hz:(P.info? e).map (·.size)=some s) (hb: ∀ w,(Instr.sliceBounds true n c lo hi mx).run P w= .ok (l,k,q) w)
  (hlk:l<=k) (hkn:k<=n) (hkq:k<=q) (hm:k-l=m) (hc:q-l=c'): ∃ A',(∀ w,(Instr.sliceAt t (.slice A n c) lo hi mx).run P w= .ok (.slice A' m c') w)/\(∀ (w:World) (B:Nat),Rd w B s A n (b.flatMap enc)->Rd w B s A' m (((b.drop l).take m).flatMap enc))/\ ∀ a',A'=some a'-> ∃ a,A=some a/\a.block=a'.block:=by
 subst hm;subst hc;obtain ⟨A',h1,h2,h3⟩:=Cc (A:=A) hu hz hb hlk hkn hkq;refine ⟨A',h1,λw B hR=>?_,h3⟩
 replace h2:=h2 w B _ hR
 rw [SH hsz,SI hsz] at h2;exact h2
end
section
open Go.RowKit
def Ao (n:Int):List UInt8:=[UInt8.ofNat (n / 16777216).toNat,UInt8.ofNat (n / 65536 % 256).toNat,UInt8.ofNat (n / 256 % 256).toNat,UInt8.ofNat (n % 256).toNat]
theorem aaP {n:Int} (h0:0<=n) (h1:n<=2147483647):
  byteCells (Ao n)=[.int .u8 (n / 16777216),.int .u8 (n / 65536 % 256),.int .u8 (n / 256 % 256),.int .u8 (n % 256)]:=by
 have key: ∀ m:Int,0<=m->m<=255->((UInt8.ofNat m.toNat).toNat:Int)=m:=by
  intro m a b;simp;omega
 simp only [byteCells,Ao,List.map_cons,List.map_nil];rw [key _ oQ oQ,key _ oQ oQ,key _ oQ oQ,key _ oQ oQ]
def qO (n:Int):List UInt8×Int:=if 0<=n/\n<=2147483647 then (Ao n,0) else ([],2)
def nI (w:World) (r:List UInt8×Int) (e:Ending) (w':World):Prop:=
 ∃ A c,e= .returned (.tuple #[.slice A r.1.length c,.int .i64 r.2])/\Below w.heap.size w w'/\Rd w' w'.heap.size 1 A r.1.length (byteCells r.1)
theorem nI.none_ (w:World) (k:Int):nI w ([],k) (.returned (.tuple #[.slice none 0 0,.int .i64 k])) w:=
 ⟨none,0,rfl,Below.refl _ _,Rd.none_⟩
theorem nI.four (w:World) (n:Int) (h0:0<=n) (h1:n<=2147483647) (t:TypeId):
  nI w (Ao n,0) (.returned (.tuple #[.slice (some ⟨w.heap.size,0,none⟩) 4 4,.int .i64 0])) (w.alloc (.cells #[.int .u8 (n / 16777216),.int .u8 (n / 65536 % 256),.int .u8 (n / 256 % 256),.int .u8 (n % 256)] t)):=by
 refine ⟨_,4,rfl,by go_grown,?_⟩;have:=Rd.ahS w t (byteCells (Ao n)) 4 1 (by simp [byteCells,Ao]);rw [aaP h0 h1] at this⊢;have e4:(Ao n).length=4:=rfl;simpa [e4] using this
theorem QJ (n:Int) (w:World):Calls Tryz.prog 150 #[.int .i64 n] w (nI w (qO n)):=by
 by_cases h:0<=n/\n<=2147483647
 ·have hm:qO n=(Ao n,0):=if_pos h;rw [hm];clear hm;obtain ⟨h0,h1⟩:=h
  go_enter Tryz.func150,Tryz.ntmps150
  go_wp2
  go_ret2
  exact nI.four w n h0 h1 _
 have hm:qO n=([],2):=if_neg h;rw [hm];clear hm;by_cases h0:n<0
 ·clear h
  go_enter Tryz.func150,Tryz.ntmps150
  go_wp2
  go_ret2
  exact nI.none_ w 2
 have h1:2147483647<n:=oQ;clear h
 go_enter Tryz.func150,Tryz.ntmps150
 go_wp2
 go_ret2
 exact nI.none_ w 2
theorem Et:(Tryz.prog.info? 5).map (λi=>(i.zero,i.size,i.bytes))=some (some (.int .u8 0),1,1):=kQ
def ou:List UInt8->Int×Int
 | a::b::c::d::_=>if 127<a.toNat then (0,2) else (16777216*(a.toNat:Int)+65536*(b.toNat:Int)+256*(c.toNat:Int)+(d.toNat:Int),0)
 | _=>(0,4)
theorem H7 {l:List UInt8} (h:l.length<4):ou l=(0,4):=by
 match l,h with
 | [],_=>rfl
 | [_],_=>rfl
 | [_,_],_=>rfl
 | [_,_,_],_=>rfl
theorem akv {l:List UInt8} (h: ¬ l.length<4): ∃ a b c d r,l=a::b::c::d::r:=by
 match l,h with
 | a::b::c::d::r,_=>exact ⟨a,b,c,d,r,rfl⟩
 | [],h=>simp at h
 | [_],h=>simp at h
 | [_,_],h=>simp at h
 | [_,_,_],h=>simp at h
theorem Wz (a:UInt8):0<=(a.toNat:Int)/\(a.toNat:Int)<=255:=by
 have:=a.toNat_lt;omega
theorem XU (A:Option Addr) (n c:Nat) (l:List UInt8) (w:World) {B:Nat} (h:Rd w B 1 A n (byteCells l)) (hn:n<=c):
  Calls Tryz.prog 147 #[.slice A n c] w λe w'=>e= .returned (.tuple #[.int .i64 (ou l).1,.int .i64 (ou l).2])/\w=w':=by
 have hl:=h.nH;by_cases h4:l.length<4
 ·rw [H7 h4];have hn4:n<4:=oQ;clear hl h4
  go_enter Tryz.func147,Tryz.ntmps147
  go_wp2
  go_ret2
  exact ⟨rfl,rfl⟩
 have hn4:4<=n:=oQ;have hc4:4<=c:=oQ;obtain ⟨x0,x1,x2,x3,r,rfl⟩:=akv h4;obtain ⟨b,off,rfl,_,hcell⟩:=h.2 oQ;have c0:=hcell 0 (.int .u8 x0.toNat) rfl;have c1:=hcell 1 (.int .u8 x1.toNat) rfl;have c2:=hcell 2 (.int .u8 x2.toNat) rfl;have c3:=hcell 3 (.int .u8 x3.toNat) rfl;rw [Nat.add_zero] at c0;have b0:=Wz x0;have b1:=Wz x1;have b2:=Wz x2;have b3:=Wz x3;have q0:=azU x0.toNat oQ oQ;have q1:=or8 x0.toNat x1.toNat oQ oQ oQ oQ;have q2:=or8 (x0.toNat*256+x1.toNat) x2.toNat oQ oQ oQ oQ;have q3:=or8 ((x0.toNat*256+x1.toNat)*256+x2.toNat) x3.toNat oQ oQ oQ oQ;have hm:ou (x0::x1::x2::x3::r)=if 127<x0.toNat then (0,2) else (16777216*(x0.toNat:Int)+65536*(x1.toNat:Int)+256*(x2.toNat:Int)+(x3.toNat:Int),0):=rfl
 clear h hl h4 hcell;by_cases hx:127<x0.toNat
 ·rw [hm,if_pos hx];clear hm
  go_enter Tryz.func147,Tryz.ntmps147
  go_wp2
  go_rounds 5
  go_ret2
  exact ⟨rfl,rfl⟩
 rw [hm,if_neg hx];clear hm
 go_enter Tryz.func147,Tryz.ntmps147
 go_wp2
 go_rounds 5
 go_ret2
 exact ⟨ajv oQ,rfl⟩
end
section
open ChangeShapes WideShapes RowKit
def Da (l:List UInt8):Int×Int:=l.foldl (λs c=>(s.1+c.toNat,s.2+(s.1+c.toNat))) (1,0)
theorem af3 (l:List UInt8) (x:UInt8):Da (l++[x])=((Da l).1+x.toNat,(Da l).2+((Da l).1+x.toNat)):=by simp [Da]
theorem SK {l:List UInt8} {k:Nat} {x:UInt8} (h:l[k]? =some x):Da (l.take (k+1))=((Da (l.take k)).1+x.toNat,(Da (l.take k)).2+((Da (l.take k)).1+x.toNat)):=by
 rw [<-af3,List.take_add_one,h];rfl
theorem XV (l:List UInt8) (hl:l.length<=1048576) (k:Nat) (hk:k<=l.length):1<=(Da (l.take k)).1/\(Da (l.take k)).1<=1+255*k/\0<=(Da (l.take k)).2/\(Da (l.take k)).2<=267386881*k:=by
 induction k with
 | zero=>simp [Da]
 | succ k ih=>
  have ih:=ih oQ;have hx:l[k]? =some l[k]:=List.getElem?_eq_getElem oQ;have azW:(l[k]).toNat<=255:=by have:=(l[k]).toNat_lt;omega
  rw [SK hx];generalize Da (l.take k)=s at ih;generalize (l[k]).toNat=v at azW;obtain ⟨h1,h2,h3,h4⟩:=ih;refine ⟨?_,?_,?_,?_⟩<;>simp only<;>omega
def AJ (l:List UInt8):Int:=(Da l).2 % 65521*65536+(Da l).1 % 65521
theorem Rd.aqN {w:World} {B n k:Nat} {A:Option Addr} {l:List UInt8} (h:Rd w B 1 A n (byteCells l)) (hk:k<n): ∃ b off x,A=some ⟨b,off,none⟩/\b<B/\l[k]? =some x/\w.cell? ⟨b,off+k,none⟩=some (.int .u8 x.toNat):=by
 obtain ⟨b,off,u,e,hb,hx,hc⟩:=h.at_ hk;simp only [byteCells,List.getElem?_map,Option.map_eq_some_iff] at hx;obtain ⟨x,hx,rfl⟩:=hx;exact ⟨b,off,x,e,hb,hx,hc⟩
theorem Og (A:Option Addr) (n c:Nat) (l:List UInt8) (w:World) {B:Nat} (h:Rd w B 1 A n (byteCells l)) (hn:n<=1048576):
  Calls Tryz.prog 96 #[.slice A n c] w λe w'=>e= .returned (.int .i64 (AJ l))/\ ∃ q,w'=w.drewN q:=by
 have hl:=h.nH;have H:=Lib.hid h;have HL:=Lib.hid hl;have HBD:=Lib.hid (XV l oQ);have HZ0:Hid (∀ z,z=AJ l->z=(Da l).2 % 65521*65536+(Da l).1 % 65521):=Lib.hid (λz h=>h);generalize hz:AJ l=z;have HZ:=Lib.hid (HZ0.out z hz.symm);clear h hl hz HZ0
 go_enter Tryz.func96,Tryz.ntmps96
 go_wp2_with fail
 go_loopw [3,4,9] (λa b i wr=> ∃ k:Nat,k<=n/\i= .int .i64 k/\a= .int .i64 ((Da (l.take k)).1 % 65521)/\b= .int .i64 ((Da (l.take k)).2 % 65521)/\ ∃ q,wr=w.drewN q) (λ_ _ i _=>n-(intOf i).toNat)
 case atStart=>exact ⟨0,by omega,rfl,rfl,rfl,0,rfl⟩
 case round=>
  obtain ⟨k,hk,rfl,rfl,rfl,q,rfl⟩:=hrel;obtain ⟨b1,b2,b3,b4⟩:=HBD.out k (by have:=HL.out;omega);by_cases hlt:k<n
  ·obtain ⟨b,off,x,rfl,hb,hx,hc⟩:=H.out.aqN hlt;have hx255:x.toNat<=255:=by have:=x.toNat_lt;omega
   have HE:=Lib.hid (SK hx);clear hx;generalize Da (l.take k)=s at HE b1 b2 b3 b4⊢;obtain ⟨s1,s2⟩:=s;simp only at b1 b2 b3 b4 HE⊢;have k1:0<=s1 % 65521/\s1 % 65521<65521:=oQ;have k2:0<=s2 % 65521/\s2 % 65521<65521:=oQ;have HS1:Hid ((s1+(x.toNat:Int)) % 65521=(s1 % 65521+x.toNat) % 65521):=Lib.hid oQ;have HS2:Hid ((s2+(s1+(x.toNat:Int))) % 65521=(s2 % 65521+(s1 % 65521+x.toNat) % 65521) % 65521):=Lib.hid oQ;obtain ⟨k1a,k1b⟩:=k1;obtain ⟨k2a,k2b⟩:=k2;generalize s1 % 65521=u1 at HS1 HS2 k1a k1b⊢;generalize s2 % 65521=u2 at HS2 k2a k2b⊢;have m1:(u1+(x.toNat:Int)).tmod 65521=(u1+x.toNat) % 65521:=Int.tmod_eq_emod_of_nonneg oQ;have k3:0<=(u1+(x.toNat:Int)) % 65521/\(u1+(x.toNat:Int)) % 65521<65521:=oQ;obtain ⟨k3a,k3b⟩:=k3;generalize (u1+(x.toNat:Int)) % 65521=u3 at m1 HS1 HS2 k3a k3b;have m2:(u2+u3).tmod 65521=(u2+u3) % 65521:=Int.tmod_eq_emod_of_nonneg oQ
   go_wp2_with fail
   go_roundw
   case rel=>exact ⟨k+1,by omega,by go_num,by rw [HE.out,HS1.out],by rw [HE.out,HS2.out],q,rfl⟩
   case measure=>simp [intOf];omega
  obtain rfl:k=n:=oQ;have e1:l.take k=l:=List.take_of_length_le (by have:=HL.out;omega);rw [e1] at b1 b2 b3 b4⊢;clear e1 HBD;generalize Da l=s at HZ b1 b2 b3 b4⊢;obtain ⟨s1,s2⟩:=s;simp only at b1 b2 b3 b4 HZ⊢;have k1:0<=s1 % 65521/\s1 % 65521<65521:=oQ;have k2:0<=s2 % 65521/\s2 % 65521<65521:=oQ;obtain ⟨k1a,k1b⟩:=k1;obtain ⟨k2a,k2b⟩:=k2;have ho:=azT (s2 % 65521) (s1 % 65521) k2a oQ k1a oQ;have HO:=Lib.hid ho;clear b1 b2 b3 b4
  go_wp2_with fail
  go_ret
  exact ⟨by rw [HZ.out];rfl,q,rfl⟩
theorem IZ {w:World} {base:Nat} {e:TypeId} {size n c:Nat} {A:Option Addr} {xs:List Value} (h:w.ownsRow base e size (.slice A n c) n xs):n<=c:=by
 obtain ⟨A2,c2,hv,h2,_⟩:=mJ h;simp only [Value.slice.injEq] at hv;obtain ⟨_,_,rfl⟩:=hv;exact h2
theorem Gw (w:World) (e:TypeId) (size:Nat):(w.alloc (.cells #[] e)).ownsRow w.heap.size e size (.slice (some ⟨w.heap.size,0,none⟩) 0 0) 0 []:=by
 refine ⟨by simp,.inr ⟨w.heap.size,0,#[],rfl,Nat.le_refl _,heap_alloc_new w _,Nat.le_refl _,Nat.zero_le _,by simp,by simp⟩⟩
theorem QK (A:Option Addr) (n c:Nat) (l:List UInt8) (w:World) (h:Rd w w.heap.size 1 A n (byteCells l)) (hc:n<=reachBytes):
  Calls Tryz.prog 91 #[.slice A n c] w (jq w 5 1 n (byteCells l)):=by
 have hc':n<=140737488351232:=hc;obtain ⟨i0,hi0,hz0,hz1,hz2⟩:=info_parts Et
 cases A with
 | none=>
  have hn:n=0:=by
   rcases Nat.eq_zero_or_pos n with h0 | h0
   ·exact h0
   obtain ⟨b,off,e,_⟩:=h.2 h0
   cases e
  subst hn;have hl:byteCells l=[]:=List.eq_nil_of_length_eq_zero (by have:=h.1;omega);rw [hl];clear hl h
  go_enter Tryz.func91,Tryz.ntmps91
  have he:= @Lib.run_eql_slice_nil Tryz.prog
  go_wp2
  go_ret
  exact jq.of (Below.refl _ _) (jg _ _ _ _)
 | some a=>
  go_enter Tryz.func91,Tryz.ntmps91
  have he:= @Lib.run_eql_slice_nil Tryz.prog
  go_wp2_with (at_builtin;refine jB _ rfl (.tmp 5) (.tmp 6) _ rfl w.heap.size 5 i0 _ 1 1 Tryz.underlying107 hi0 hz0 hz1 hz2 rfl oQ (.slice (some ⟨w.heap.size,0,none⟩) 0 0) 0 [] rfl (Gw w 5 1) w.heap.size (some a) n c (byteCells l) rfl (h.alloc (Nat.le_refl _) _) (byteCells_one l) lQ oQ iQ ?_;intro v1 w1 hown1 hg1 Ma)
  go_ret
  simp only [Nat.zero_add,List.nil_append] at hown1;exact jq.of (((Below.refl _ w).alloc (Nat.le_refl _) _).grown hg1 iQ (by simp [Value.ownBlock])) hown1
def cB (l:List UInt8) (s:Int):Bool:=decide (l.length<=100000)&&decide (0<=s)&&decide (s<=l.length)
def IE (l:List UInt8) (s:Int):List UInt8×Int×Bool:=if cB l s=true then (l,s,true) else ([],0,false)
def EU (w:World) (r:List UInt8×Int×Bool) (e:Ending) (w':World):Prop:=
 ∃ A c,e= .returned (.tuple #[.agg #[.slice A r.1.length c,.int .i64 r.2.1],.bool r.2.2])/\Below w.heap.size w w'/\w'.ownsRow w.heap.size 5 1 (.slice A r.1.length c) r.1.length (byteCells r.1)
theorem EU.no (w:World) {o:Obj} {o':Obj} (W:World) (hW:W=(w.alloc o).alloc o'):Below w.heap.size w W:=by
 subst hW
 go_grown
theorem af4 (A:Option Addr) (n c:Nat) (l:List UInt8) (s:Int) (w:World) (h:Rd w w.heap.size 1 A n (byteCells l)) (h1:0<=s) (h2:s<=n) (h3:n<=100000):
  Calls Tryz.prog 69 #[.agg #[.slice A n c,.int .i64 s]] w (EU w (l,s,true)):=by
 have HL:=Lib.hid h.nH;have H:=Lib.hid h;clear h
 go_enter Tryz.func69,Tryz.ntmps69
 go_wp2
 go_region_with (go_at_call 91;refine (QK A n c l _ (by exact H.out.on gQ) hQ).mono ?_;rintro e w1 ⟨A1,c1,rfl,hb1,hown1⟩;obtain ⟨hc1,hf1⟩:=Dj hb1)
 all_goals (have hz1:=hb1.size;simp at hz1)
 all_goals go_wp2
 all_goals refine bodyPost_ret (v:= .tuple #[.agg #[.slice A1 n c1,.int .i64 s],.bool true]) (by simp [results,Tryz.results69,go_sem,hc1]) rfl ?_
 all_goals (have hB:Below w.heap.size w w1:=Below.trans gQ (hb1.mono jQ))
 all_goals (obtain rfl:=HL.out)
 all_goals exact ⟨A1,c1,rfl,by go_grown,(ownsRow_setCell_below (ownsRow_setCell_below (base:=w.heap.size+1+1) (hown1.lower iQ) iQ _) iQ _).lower oQ⟩
theorem akw (A:Option Addr) (n c:Nat) (s:Int) (w:World) (hno:s<0\/(n:Int)<s\/100000<n):
  Calls Tryz.prog 69 #[.agg #[.slice A n c,.int .i64 s]] w (EU w ([],0,false)):=by
 by_cases h1:s<0
 ·clear hno
  go_enter Tryz.func69,Tryz.ntmps69
  go_wp2
  refine bodyPost_ret (v:= .tuple #[.agg #[.slice none 0 0,.int .i64 0],.bool false]) (by simp [results,Tryz.results69,go_sem]) rfl ?_;exact ⟨none,0,rfl,by go_grown,jg _ _ _ _⟩
 by_cases h2:(n:Int)<s
 ·have h1':0<=s:=oQ;clear hno h1
  go_enter Tryz.func69,Tryz.ntmps69
  go_wp2
  refine bodyPost_ret (v:= .tuple #[.agg #[.slice none 0 0,.int .i64 0],.bool false]) (by simp [results,Tryz.results69,go_sem]) rfl ?_;exact ⟨none,0,rfl,by go_grown,jg _ _ _ _⟩
 have h1':0<=s:=oQ;have h2':s<=n:=oQ;have h3:100000<n:=oQ;clear hno h1 h2
 go_enter Tryz.func69,Tryz.ntmps69
 go_wp2
 refine bodyPost_ret (v:= .tuple #[.agg #[.slice none 0 0,.int .i64 0],.bool false]) (by simp [results,Tryz.results69,go_sem]) rfl ?_;exact ⟨none,0,rfl,by go_grown,jg _ _ _ _⟩
theorem Ce {l:List UInt8} {s:Int} (h1:0<=s) (h2:s<=l.length) (h3:l.length<=100000):IE l s=(l,s,true):=if_pos (by simp [cB,h1,h2,h3])
theorem af5 {l:List UInt8} {s:Int} (h:s<0\/(l.length:Int)<s\/100000<l.length):IE l s=([],0,false):=if_neg (by simp [cB];omega)
theorem lM (A:Option Addr) (n c:Nat) (l:List UInt8) (s:Int) (w:World) (h:Rd w w.heap.size 1 A n (byteCells l)):
  Calls Tryz.prog 69 #[.agg #[.slice A n c,.int .i64 s]] w (EU w (IE l s)):=by
 have hl:=h.nH;by_cases hok:0<=s/\s<=n/\n<=100000
 ·rw [Ce hok.1 oQ oQ];exact af4 A n c l s w h hok.1 hok.2.1 hok.2.2
 rw [af5 oQ];exact akw A n c s w oQ
def rV (w:World) (r:List UInt8×Int×Int) (e:Ending) (w':World):Prop:=
 ∃ A c,e= .returned (.tuple #[.agg #[.slice A r.1.length c,.int .i64 r.2.1],.int .i64 r.2.2])/\Below w.heap.size w w'/\Rd w' w'.heap.size 1 A r.1.length (byteCells r.1)/\ ∀ a,A=some a->w.heap.size<=a.block/\a.block<w'.heap.size
theorem Oh {w:World} {base:Nat} {e:TypeId} {size:Nat} {A:Option Addr} {n c:Nat} {xs:List Value} (h:w.ownsRow base e size (.slice A n c) n xs): ∀ a,A=some a->base<=a.block/\a.block<w.heap.size:=λa ha=>⟨h.Al a.block (by rw [ha];rfl),by
 obtain ⟨_,⟨h2,_⟩ | ⟨g,cap,cur,hv,_,hh,_⟩⟩:=h
 ·cases h2;cases ha
 cases hv;cases ha;exact (Array.getElem?_eq_some_iff.1 hh).1⟩
def WA (l:List UInt8) (s:Int):List UInt8×Int×Int:=if cB l s=true then (l,l.length,0) else ([],0,6)
theorem Ba (l:List UInt8) (s:Int):(IE l s=(l,s,true)/\cB l s=true)\/(IE l s=([],0,false)/\cB l s=false):=by
 unfold IE
 cases h:cB l s<;>simp
theorem oI {l:List UInt8} {s:Int} (h:cB l s=true):l.length<=100000/\0<=s/\s<=l.length:=by
 simp [cB] at h;omega
theorem oJ (A:Option Addr) (n c:Nat) (l:List UInt8) (s:Int) (w:World) (h:Rd w w.heap.size 1 A n (byteCells l)):
  Calls Tryz.prog 63 #[.agg #[.slice A n c,.int .i64 s]] w (rV w (WA l s)):=by
 have H:=Lib.hid h;clear h;have HO:=Lib.hid (lM A n c l s)
 rcases Ba l s with ⟨ho,hm⟩ | ⟨ho,hm⟩
 ·rw [show WA l s=(l,(l.length:Int),0) from if_pos hm];rw [ho] at HO;obtain ⟨hm1,_,_⟩:=oI hm;clear ho hm
  go_enter Tryz.func63,Tryz.ntmps63
  go_wp2_with fail
  refine (HO.out _ (by exact H.out.on gQ)).mono ?_;rintro e w1 ⟨A1,c1,rfl,hb1,hown1⟩;have hz0:w.heap.size<w1.heap.size:=by have:=hb1.size;simp at this;omega
  have hz1:w.heap.size+1<w1.heap.size:=by have:=hb1.size;simp at this;omega
  obtain ⟨hc1,hf1⟩:=Dj hb1;have HB:Hid (Below w.heap.size w w1):=Lib.hid (Below.trans gQ (hb1.mono jQ));have HR:=Lib.hid (World.ownsRow.lower (base':=w.heap.size+1+1) hown1 iQ);clear hb1 hown1
  go_wp2
  refine bodyPost_ret (v:= .tuple #[.agg #[.slice A1 l.length c1,.int .i64 l.length],.int .i64 0]) (by simp [results,Tryz.results63,go_sem,hc1,hz1]<;>omega) rfl ?_;have hB:=HB.out;have hz:=hB.size;exact ⟨A1,c1,rfl,by go_grown,Rd.tO ((ownsRow_setCell_below (ownsRow_setCell_below HR.out iQ _) iQ _).alloc _),λa ha=>by have:=Oh HR.out a ha;refine ⟨by omega,?_⟩;simp;omega⟩
 rw [show WA l s=([],0,6) from if_neg (by simp [hm])];rw [ho] at HO;clear ho hm
 go_enter Tryz.func63,Tryz.ntmps63
 go_wp2_with fail
 refine (HO.out _ (by exact H.out.on gQ)).mono ?_;rintro e w1 ⟨A1,c1,rfl,hb1,hown1⟩;have hz0:w.heap.size<w1.heap.size:=by have:=hb1.size;simp at this;omega
 have hz1:w.heap.size+1<w1.heap.size:=by have:=hb1.size;simp at this;omega
 obtain ⟨hc1,hf1⟩:=Dj hb1;have HB:Hid (Below w.heap.size w w1):=Lib.hid (Below.trans gQ (hb1.mono jQ));clear hb1 hown1
 go_wp2
 refine bodyPost_ret (v:= .tuple #[.agg #[.slice none 0 0,.int .i64 0],.int .i64 6]) (by simp [results,Tryz.results63,go_sem,hc1,hz1]<;>omega) rfl ?_;have hB:=HB.out;have hz:=hB.size;exact ⟨none,0,rfl,by go_grown,Rd.none_,λa ha=>by cases ha⟩
def mY (l:List UInt8) (s keep:Int):List UInt8×Int×Int:=
 if cB l s=true then if keep<0 then ([],0,2) else if (l.length:Int)-s<keep then (l,l.length,0) else (l.take (s+keep).toNat,s+keep,0) else ([],0,6)
theorem Rd.take {w:World} {B size n:Nat} {A:Option Addr} {xs:List Value} (h:Rd w B size A n xs) {m:Nat} (hm:m<=n):Rd w B size A m (xs.take (m*size)):=by
 refine ⟨?_,λh0=>?_⟩
 ·rw [List.length_take,h.1];exact Nat.min_eq_left (Nat.mul_le_mul_right _ hm)
 obtain ⟨b,off,e,hb,hc⟩:=h.2 oQ;refine ⟨b,off,e,hb,λj u hu=>hc j u ?_⟩;rw [List.getElem?_take] at hu
 split at hu
 ·exact hu
 cases hu
theorem Mc (l:List UInt8) (m:Nat):(byteCells l).take m=byteCells (l.take m):=by simp [byteCells,List.map_take]
theorem aaQ (A:Option Addr) (n c:Nat) (l:List UInt8) (s keep:Int) (w:World) (h:Rd w w.heap.size 1 A n (byteCells l)) (hm:cB l s=true) (h0:0<=keep) (hk:(l.length:Int)-s<keep):
  Calls Tryz.prog 44 #[.agg #[.slice A n c,.int .i64 s],.int .i64 keep] w (rV w (l,l.length,0)):=by
 have H:=Lib.hid h;clear h;have HO:=Lib.hid (lM A n c l s);obtain ⟨hm1,hs0,hs1⟩:=oI hm;rw [Ce hs0 hs1 hm1] at HO;obtain ⟨s',rfl⟩:=Int.eq_ofNat_of_zero_le hs0;clear hm
 go_enter Tryz.func44,Tryz.ntmps44
 go_wp2_with fail
 refine (HO.out _ (by exact H.out.on gQ)).mono ?_;rintro e w1 ⟨A1,c1,rfl,hb1,hown1⟩;have hz0:w.heap.size<w1.heap.size:=by have:=hb1.size;simp at this;omega
 have hz1:w.heap.size+1<w1.heap.size:=by have:=hb1.size;simp at this;omega
 obtain ⟨hc1,hf1⟩:=Dj hb1;have HB:Hid (Below w.heap.size w w1):=Lib.hid (Below.trans gQ (hb1.mono jQ));have hcap:=IZ hown1;have HR:=Lib.hid (World.ownsRow.lower (base':=w.heap.size+1+1) hown1 iQ);clear hb1 hown1;have e1:(s':Int)+((l.length:Int)-s')=l.length:=oQ
 go_wp2
 refine bodyPost_ret (v:= .tuple #[.agg #[.slice A1 l.length l.length,.int .i64 l.length],.int .i64 0]) (by simp [results,Tryz.results44,go_sem,hc1,hz1]<;>omega) rfl ?_;have hB:=HB.out;have hz:=hB.size;exact ⟨A1,l.length,rfl,by go_grown,Rd.KQ ((ownsRow_setCell_below (ownsRow_setCell_below HR.out iQ _) iQ _).alloc _),λa ha=>by have:=Oh HR.out a ha;refine ⟨by omega,?_⟩;simp;omega⟩
theorem XW (A:Option Addr) (n c:Nat) (l:List UInt8) (s keep:Int) (w:World) (h:Rd w w.heap.size 1 A n (byteCells l)) (hm:cB l s=true) (h0:0<=keep) (hk: ¬ (l.length:Int)-s<keep):
  Calls Tryz.prog 44 #[.agg #[.slice A n c,.int .i64 s],.int .i64 keep] w (rV w (l.take (s+keep).toNat,s+keep,0)):=by
 have H:=Lib.hid h;clear h;have HO:=Lib.hid (lM A n c l s);obtain ⟨hm1,hs0,hs1⟩:=oI hm;rw [Ce hs0 hs1 hm1] at HO;obtain ⟨s',rfl⟩:=Int.eq_ofNat_of_zero_le hs0;obtain ⟨k',rfl⟩:=Int.eq_ofNat_of_zero_le h0;have hsk:s'+k'<=l.length:=oQ;have hk':(s':Int)+k'<=l.length:=oQ;clear hm;rw [show ((s':Int)+(k':Int)).toNat=s'+k' by omega]
 go_enter Tryz.func44,Tryz.ntmps44
 go_wp2_with fail
 refine (HO.out _ (by exact H.out.on gQ)).mono ?_;rintro e w1 ⟨A1,c1,rfl,hb1,hown1⟩;have hz0:w.heap.size<w1.heap.size:=by have:=hb1.size;simp at this;omega
 have hz1:w.heap.size+1<w1.heap.size:=by have:=hb1.size;simp at this;omega
 obtain ⟨hc1,hf1⟩:=Dj hb1;have HB:Hid (Below w.heap.size w w1):=Lib.hid (Below.trans gQ (hb1.mono jQ));have hcap:=IZ hown1;have HR:=Lib.hid (World.ownsRow.lower (base':=w.heap.size+1+1) hown1 iQ);clear hb1 hown1
 go_wp2
 refine bodyPost_ret (v:= .tuple #[.agg #[.slice A1 (s'+k') (s'+k'),.int .i64 (s'+k')],.int .i64 0]) (by simp [results,Tryz.results44,go_sem,hc1,hz1]<;>omega) rfl ?_;have hB:=HB.out;have hz:=hB.size;have hl:(l.take (s'+k')).length=s'+k':=by rw [List.length_take];omega
 have hr:=(Rd.KQ ((ownsRow_setCell_below (ownsRow_setCell_below HR.out (a:=⟨w.heap.size+1,0,none⟩) iQ (.slice A1 (s'+k') (s'+k'))) (a:=⟨w.heap.size+1,1,none⟩) iQ (.int .i64 (s'+k'))).alloc (.cells #[.slice A1 l.length c1,.int .i64 s'] 109))).take hsk;rw [Nat.mul_one,Mc] at hr
 try simp only [show (s':Int)+min (k':Int) ((l.length:Int)-s')=(s':Int)+k' by omega,show ((s':Int)+(k':Int)).toNat=s'+k' by omega]
 exact ⟨A1,s'+k',by simp only [hl],by go_grown,by simpa only [hl] using hr,λa ha=>by have:=Oh HR.out a ha;refine ⟨by omega,?_⟩;simp;omega⟩
theorem aaR (A:Option Addr) (n c:Nat) (l:List UInt8) (s keep:Int) (w:World) (h:Rd w w.heap.size 1 A n (byteCells l)) (hm:cB l s=true) (h0:keep<0):
  Calls Tryz.prog 44 #[.agg #[.slice A n c,.int .i64 s],.int .i64 keep] w (rV w ([],0,2)):=by
 have H:=Lib.hid h;clear h;have HO:=Lib.hid (lM A n c l s);obtain ⟨hm1,hs0,hs1⟩:=oI hm;rw [Ce hs0 hs1 hm1] at HO;clear hm
 go_enter Tryz.func44,Tryz.ntmps44
 go_wp2_with fail
 refine (HO.out _ (by exact H.out.on gQ)).mono ?_;rintro e w1 ⟨A1,c1,rfl,hb1,hown1⟩;have hz0:w.heap.size<w1.heap.size:=by have:=hb1.size;simp at this;omega
 have hz1:w.heap.size+1<w1.heap.size:=by have:=hb1.size;simp at this;omega
 obtain ⟨hc1,hf1⟩:=Dj hb1;have HB:Hid (Below w.heap.size w w1):=Lib.hid (Below.trans gQ (hb1.mono jQ));have hcap:=IZ hown1;have HR:=Lib.hid (World.ownsRow.lower (base':=w.heap.size+1+1) hown1 iQ);clear hb1 hown1
 go_wp2
 refine bodyPost_ret (v:= .tuple #[.agg #[.slice none 0 0,.int .i64 0],.int .i64 2]) (by simp [results,Tryz.results44,go_sem,hc1,hz1]<;>omega) rfl ?_;have hB:=HB.out;have hz:=hB.size;exact ⟨none,0,rfl,by go_grown,Rd.none_,λa ha=>by cases ha⟩
theorem af6 (A:Option Addr) (n c:Nat) (l:List UInt8) (s keep:Int) (w:World) (h:Rd w w.heap.size 1 A n (byteCells l)) (hm:cB l s=false):
  Calls Tryz.prog 44 #[.agg #[.slice A n c,.int .i64 s],.int .i64 keep] w (rV w ([],0,6)):=by
 have H:=Lib.hid h;clear h;have HO:=Lib.hid (lM A n c l s)
 rcases Ba l s with ⟨_,hm'⟩ | ⟨ho,_⟩
 ·rw [hm] at hm';cases hm'
 rw [ho] at HO;clear ho hm
 go_enter Tryz.func44,Tryz.ntmps44
 go_wp2_with fail
 refine (HO.out _ (by exact H.out.on gQ)).mono ?_;rintro e w1 ⟨A1,c1,rfl,hb1,hown1⟩;have hz0:w.heap.size<w1.heap.size:=by have:=hb1.size;simp at this;omega
 have hz1:w.heap.size+1<w1.heap.size:=by have:=hb1.size;simp at this;omega
 obtain ⟨hc1,hf1⟩:=Dj hb1;have HB:Hid (Below w.heap.size w w1):=Lib.hid (Below.trans gQ (hb1.mono jQ));have hcap:=IZ hown1;have HR:=Lib.hid (World.ownsRow.lower (base':=w.heap.size+1+1) hown1 iQ);clear hb1 hown1
 go_wp2
 refine bodyPost_ret (v:= .tuple #[.agg #[.slice none 0 0,.int .i64 0],.int .i64 6]) (by simp [results,Tryz.results44,go_sem,hc1,hz1]<;>omega) rfl ?_;have hB:=HB.out;have hz:=hB.size;exact ⟨none,0,rfl,by go_grown,Rd.none_,λa ha=>by cases ha⟩
theorem Uy (A:Option Addr) (n c:Nat) (l:List UInt8) (s keep:Int) (w:World) (h:Rd w w.heap.size 1 A n (byteCells l)):
  Calls Tryz.prog 44 #[.agg #[.slice A n c,.int .i64 s],.int .i64 keep] w (rV w (mY l s keep)):=by
 unfold mY
 cases hm:cB l s
 ·rw [if_neg iQ];exact af6 A n c l s keep w h hm
 rw [if_pos rfl];by_cases h0:keep<0
 ·rw [if_pos h0];exact aaR A n c l s keep w h hm h0
 rw [if_neg h0];by_cases hk:(l.length:Int)-s<keep
 ·rw [if_pos hk];exact aaQ A n c l s keep w h hm oQ hk
 rw [if_neg hk];exact XW A n c l s keep w h hm oQ hk
def headed (p:List UInt8):List UInt8:=UInt8.ofNat (p.length / 256)::UInt8.ofNat (p.length % 256)::p
def jL (p:List UInt8):List UInt8:=headed p++Ao (AJ (headed p))
theorem uW (p:List UInt8):(jL p).length=p.length+6:=by simp [jL,headed,Ao]
theorem XY (p:List UInt8):(headed p).length=p.length+2:=by simp [headed]
theorem XZ {n:Int} (h0:0<=n) (h1:n<=4294967295):
  byteCells (Ao n)=[.int .u8 (n / 16777216),.int .u8 (n / 65536 % 256),.int .u8 (n / 256 % 256),.int .u8 (n % 256)]:=by
 have key: ∀ m:Int,0<=m->m<=255->((UInt8.ofNat m.toNat).toNat:Int)=m:=by
  intro m a b;simp;omega
 simp only [byteCells,Ao,List.map_cons,List.map_nil];rw [key _ oQ oQ,key _ oQ oQ,key _ oQ oQ,key _ oQ oQ]
theorem K7 (l:List UInt8):0<=AJ l/\AJ l<=4293984240:=by
 unfold AJ;omega
theorem QL (p:List UInt8) (h:p.length<=65535):byteCells (headed p)=[.int .u8 ((p.length:Int) / 256),.int .u8 ((p.length:Int) % 256)]++byteCells p:=by
 simp only [headed,byteCells,List.map_cons,List.cons_append,List.nil_append,List.cons.injEq,Value.int.injEq,true_and,and_true]
 constructor
 ·simp;omega
 simp
theorem two_bytes (w:World) (a b:Int):(w.alloc (.cells #[.int .u8 a,.int .u8 b] 5)).ownsRow w.heap.size 5 1 (.slice (some ⟨w.heap.size,0,none⟩) 2 2) 2 [.int .u8 a,.int .u8 b]:=
 YW w _ 5 2 1 rfl (by simp [maxLen])
theorem X0 (w:World) (s:Int) (h0:0<=s) (h1:s<=4294967295):Rd (w.alloc (.cells #[.int .u8 (s / 16777216),.int .u8 (s / 65536 % 256),.int .u8 (s / 256 % 256),.int .u8 (s % 256)] 5)) (w.heap.size+1) 1 (some ⟨w.heap.size,0,none⟩) 4 (byteCells (Ao s)):=by
 rw [XZ h0 h1];exact Rd.ahS w 5 _ 4 1 rfl
theorem Uz (A:Option Addr) (n c:Nat) (p:List UInt8) (w:World) (h:Rd w w.heap.size 1 A n (byteCells p)) (hn:n<=1000):
  Calls Tryz.prog 115 #[.slice A n c] w (jq w 5 1 (jL p).length (byteCells (jL p))):=by
 obtain ⟨j0,hj0,SC,SE,SF⟩:=info_parts Et;have hl:=h.nH;subst hl;have H:=Lib.hid h;have HC:=Lib.hid (QL p oQ);have HS:=Lib.hid (λA n c w (h:Rd w w.heap.size 1 A n (byteCells (headed p)))=>Og A n c (headed p) w h (by have:=h.nH;have:=XY p;omega));have HF:Hid ((jL p).length=p.length+6/\byteCells (jL p)=byteCells (headed p)++byteCells (Ao (AJ (headed p)))):=Lib.hid ⟨uW p,by rw [jL,byteCells_append]⟩;obtain ⟨s0,s1⟩:=K7 (headed p);clear h;generalize jL p=z at HF⊢;generalize AJ (headed p)=s at HS HF s0 s1;have H4:=Lib.hid (λw=>X0 w s s0 oQ);have H2:=Lib.hid (two_bytes w ((p.length:Int) / 256) ((p.length:Int) % 256))
 go_enter Tryz.func115,Tryz.ntmps115
 go_wp2_with (at_builtin;refine jB _ rfl (.tmp 12) (.tmp 13) _ rfl w.heap.size 5 j0 _ 1 1 Tryz.underlying107 hj0 SC SE SF rfl oQ (.slice (some ⟨w.heap.size,0,none⟩) 2 2) 2 _ rfl H2.out w.heap.size A p.length c (byteCells p) rfl (by exact H.out.alloc (Nat.le_refl _) _) (byteCells_one _) lQ oQ iQ ?_;intro v1 w3 hown1 hg1 Ma;obtain ⟨A4,c4,rfl,_⟩:=mJ hown1;rw [<-HC.out] at hown1)
 have HB3:Hid (Below w.heap.size w w3):=Lib.hid (Below.grown gQ hg1 iQ (λk hk=>by simp [Value.ownBlock] at hk;omega));have HO3:=Lib.hid hown1;have HR3:=Lib.hid (Rd.tO hown1);have hz3:w.heap.size<w3.heap.size:=by have:=hg1.size;simp at this;omega
 clear hown1 hg1 Ma
 go_wp2_with fail
 refine (HS.out _ _ _ _ (by exact HR3.out)).mono ?_;rintro e w4 ⟨rfl,q,rfl⟩;have HO4:Hid ((w3.drewN q).ownsRow w.heap.size 5 1 (.slice A4 (2+p.length) c4) (2+p.length) (byteCells (headed p))):=HO3;have HB4:=Lib.hid (JF HB3.out q);have hz4:w.heap.size< (w3.drewN q).heap.size:=hz3;clear HO3 HR3;generalize w3.drewN q=w4 at HO4 HB4 hz4⊢
 go_wp2_with (at_builtin;refine jB _ rfl (.tmp 17) (.tmp 29) _ rfl w.heap.size 5 j0 _ 1 1 Tryz.underlying107 hj0 SC SE SF rfl oQ _ (2+p.length) (byteCells (headed p)) rfl (HO4.out.alloc _) (w4.heap.size+1) (some ⟨w4.heap.size,0,none⟩) 4 4 (byteCells (Ao s)) rfl (H4.out w4) (byteCells_one _) lQ oQ jQ ?_;intro v1 w5 hown1 hg1 Ma;obtain ⟨A5,c5,rfl,_⟩:=mJ hown1;rw [<-HF.out.2,show 2+p.length+4=z.length by rw [HF.out.1];omega] at hown1)
 have HB5:=Lib.hid (((HB4.out.alloc oQ _).grown hg1 jQ (λk hk=>HO4.out.Al k hk)))
 go_ret
 rw [show 2+p.length+4=z.length by rw [HF.out.1];omega];exact ⟨A5,c5,rfl,HB5.out,hown1⟩
structure Pl where
 node:Int
 epoch:Int
 deriving DecidableEq
structure Dir where
 p0:Pl
 p1:Pl
 p2:Pl
 p3:Pl
 deriving DecidableEq
def Dir.cells (d:Dir):List Value:=[.int .i64 d.p0.node,.int .i64 d.p0.epoch,.int .i64 d.p1.node,.int .i64 d.p1.epoch,.int .i64 d.p2.node,.int .i64 d.p2.epoch,.int .i64 d.p3.node,.int .i64 d.p3.epoch]
def Dir.val (d:Dir):Value:= .agg #[.int .i64 d.p0.node,.int .i64 d.p0.epoch,.int .i64 d.p1.node,.int .i64 d.p1.epoch,.int .i64 d.p2.node,.int .i64 d.p2.epoch,.int .i64 d.p3.node,.int .i64 d.p3.epoch]
def Dir.at (d:Dir):Nat->Pl
 | 0=>d.p0
 | 1=>d.p1
 | 2=>d.p2
 | _=>d.p3
def Dir.set (d:Dir) (k:Nat) (p:Pl):Dir:=
 match k with
 | 0=>{ d with p0:=p }
 | 1=>{ d with p1:=p }
 | 2=>{ d with p2:=p }
 | _=>{ d with p3:=p }
def mZ:Pl:=⟨0,0⟩
def nowhere:Pl:=⟨-1,0⟩
def kH:Dir:=⟨mZ,mZ,mZ,mZ⟩
def za (p:Pl):Prop:=(p.node= -1/\p.epoch=0)\/(0<=p.node/\p.node<=4/\1<=p.epoch/\p.epoch<=1048576)
open Classical in
noncomputable def gK (d:Dir):Int:=if ∀ k,k<4->za (d.at k) then 0 else 6
theorem QM {d:Dir} {k:Nat} (hk:k<4) (h: ¬ za (d.at k)):gK d=6:=if_neg (λh'=>h (h' k hk))
theorem H8 {d:Dir} (h: ∀ k,k<4->za (d.at k)):gK d=0:=if_pos h
theorem Ni {d:Dir} (h:gK d=0): ∀ k,k<4->za (d.at k):=by
 unfold gK at h
 split at h
 ·assumption
 cases h
theorem K8 (a b:Pl):dP [.int .i64 a.node,.int .i64 a.epoch] [.int .i64 b.node,.int .i64 b.epoch]=decide (a=b):=by
 have:=zK (xs:=[a.node,a.epoch]) (ys:=[b.node,b.epoch]) rfl;simp only [List.map_cons,List.map_nil] at this;rw [this,Bool.eq_iff_iff];obtain ⟨a1,a2⟩:=a;obtain ⟨b1,b2⟩:=b;simp
theorem Zm:flat Tryz.prog 30 27=some (List.replicate 2 (.at_ (.int .i64))):=kQ
theorem Zn:EP Tryz.prog 30 27=true:=kQ
theorem aez (xs:List Value):mkV Tryz.prog 27 xs= .agg xs.toArray:=by
 unfold mkV;rw [Tryz.underlying27]
theorem K9 (a b:Pl) (w:World):(binOp .eql 27 (.agg #[.int .i64 a.node,.int .i64 a.epoch]) (.agg #[.int .i64 b.node,.int .i64 b.epoch])).run Tryz.prog w= .ok (.bool (decide (a=b))) w:=by
 rw [<-K8];exact DL (P:=Tryz.prog) w Zm Zn aez (yJ [a.node,a.epoch]) (yJ [b.node,b.epoch])
theorem X4 (a b:Pl) (w:World):(binOp .neq 27 (.agg #[.int .i64 a.node,.int .i64 a.epoch]) (.agg #[.int .i64 b.node,.int .i64 b.epoch])).run Tryz.prog w= .ok (.bool (!decide (a=b))) w:=by
 rw [<-K8];exact oF (P:=Tryz.prog) w Zm Zn aez (yJ [a.node,a.epoch]) (yJ [b.node,b.epoch])
theorem aaS (n0 e0 n1 e1 n2 e2 n3 e3:Int) (w:World):(Instr.index 28 (.agg #[.int .i64 n0,.int .i64 e0,.int .i64 n1,.int .i64 e1,.int .i64 n2,.int .i64 e2,.int .i64 n3,.int .i64 e3]) (.int .i64 0)).run Tryz.prog w= .ok (.agg #[.int .i64 n0,.int .i64 e0]) w:=kQ
theorem aaT (n0 e0 n1 e1 n2 e2 n3 e3:Int) (w:World):(Instr.index 28 (.agg #[.int .i64 n0,.int .i64 e0,.int .i64 n1,.int .i64 e1,.int .i64 n2,.int .i64 e2,.int .i64 n3,.int .i64 e3]) (.int .i64 1)).run Tryz.prog w= .ok (.agg #[.int .i64 n1,.int .i64 e1]) w:=kQ
theorem aaU (n0 e0 n1 e1 n2 e2 n3 e3:Int) (w:World):(Instr.index 28 (.agg #[.int .i64 n0,.int .i64 e0,.int .i64 n1,.int .i64 e1,.int .i64 n2,.int .i64 e2,.int .i64 n3,.int .i64 e3]) (.int .i64 2)).run Tryz.prog w= .ok (.agg #[.int .i64 n2,.int .i64 e2]) w:=kQ
theorem aaV (n0 e0 n1 e1 n2 e2 n3 e3:Int) (w:World):(Instr.index 28 (.agg #[.int .i64 n0,.int .i64 e0,.int .i64 n1,.int .i64 e1,.int .i64 n2,.int .i64 e2,.int .i64 n3,.int .i64 e3]) (.int .i64 3)).run Tryz.prog w= .ok (.agg #[.int .i64 n3,.int .i64 e3]) w:=kQ
theorem af7 (d:Dir) (k:Nat) (hk:k<4) (w:World):(Instr.index 28 (.agg #[.int .i64 d.p0.node,.int .i64 d.p0.epoch,.int .i64 d.p1.node,.int .i64 d.p1.epoch,.int .i64 d.p2.node,.int .i64 d.p2.epoch,.int .i64 d.p3.node,.int .i64 d.p3.epoch]) (.int .i64 k)).run Tryz.prog w= .ok (.agg #[.int .i64 (d.at k).node,.int .i64 (d.at k).epoch]) w:=by
 have h:k=0\/k=1\/k=2\/k=3:=oQ
 rcases h with rfl | rfl | rfl | rfl
 ·exact aaS _ _ _ _ _ _ _ _ w
 ·exact aaT _ _ _ _ _ _ _ _ w
 ·exact aaU _ _ _ _ _ _ _ _ w
 exact aaV _ _ _ _ _ _ _ _ w
structure Nw (w:World):Prop where
 c0:w.cell? ⟨0,0,none⟩=some (.int .i64 (-1))
 c1:w.cell? ⟨0,1,none⟩=some (.int .i64 0)
 lt:0<w.heap.size
theorem Nw.on {w w':World} (h:Nw w) (hb:Below w.heap.size w w'):Nw w':=
 ⟨(hb.cell (p:=⟨0,0,none⟩) h.lt).trans h.c0,(hb.cell (p:=⟨0,1,none⟩) h.lt).trans h.c1,Nat.lt_of_lt_of_le h.lt hb.size⟩
def awl (w:World) (k:Int) (e:Ending) (w':World):Prop:=e= .returned (.int .i64 k)/\Below w.heap.size w w'
def aeA (w:World) (r:Pl×Int) (e:Ending) (w':World):Prop:=e= .returned (.tuple #[.agg #[.int .i64 r.1.node,.int .i64 r.1.epoch],.int .i64 r.2])/\Below w.heap.size w w'
def Zo (w:World) (r:Dir×Int) (e:Ending) (w':World):Prop:=e= .returned (.tuple #[r.1.val,.int .i64 r.2])/\Below w.heap.size w w'
theorem QN (d:Dir) (w:World) (hn:Nw w):Calls Tryz.prog 112 #[d.val] w (awl w (gK d)):=by
 have HN:=Lib.hid hn;have HI:=Lib.hid (af7 d);have HF:=Lib.hid (λk hk h=>QM (d:=d) (k:=k) hk h);have H0:=Lib.hid (H8 (d:=d));clear hn;generalize gK d=z at HF H0⊢;have hat:=Lib.hid (rfl:d.at=d.at);generalize d.at=f at HI HF H0 hat;clear hat;obtain ⟨⟨n0,e0⟩,⟨n1,e1⟩,⟨n2,e2⟩,⟨n3,e3⟩⟩:=d;unfold Dir.val;simp only at HI⊢
 go_enter Tryz.func112,Tryz.ntmps112
 go_wp2_with fail
 go_loopw [7] (λi wr=> ∃ k:Nat,k<=4/\i= .int .i64 k/\(∀ j,j<k->za (f j))/\Below w.heap.size w wr) (λi _=>4-(intOf i).toNat)
 case atStart=>exact ⟨0,by omega,rfl,λj hj=>absurd hj oQ,by go_grown⟩
 case round=>
  obtain ⟨k,hk,rfl,hall,hb⟩:=hrel;have hsz:w.heap.size<=wr.heap.size:=hb.size;have HB:=Lib.hid hb;have HA:=Lib.hid hall;by_cases hlt:k<4
  ·have hi:=HI.out k hlt;have HFk:=Lib.hid (HF.out k hlt);have HQ:Hid (za (f k)-> ∀ j,j<k+1->za (f j)):=Lib.hid (λh j hj=>by
    by_cases e:j=k
    ·rw [e];exact h
    exact HA.out j oQ)
   obtain ⟨g0,g1,g2⟩:=HN.out.on hb;generalize f k=p at hi HFk HQ;have hq:=K9 p nowhere;unfold nowhere at hq;simp only at hq;clear hall;by_cases hp:p=⟨-1,0⟩
   ·have HG:=Lib.hid (HQ.out (by rw [hp];exact .inl ⟨rfl,rfl⟩));have hd:decide (p=⟨-1,0⟩)=true:=by simpa using hp
    rw [hd] at hq;clear hp hd;obtain ⟨pn,pe⟩:=p;simp only at hi hq
    go_wp2_with fail
    go_roundw
    case rel=>exact ⟨k+1,by omega,by go_num,HG.out,by go_grown⟩
    case measure=>simp [intOf];omega
   have hd:decide (p=⟨-1,0⟩)=false:=by simpa using hp
   rw [hd] at hq;clear hd;obtain ⟨pn,pe⟩:=p;simp only [Pl.mk.injEq] at hi hq hp;have HP:=Lib.hid hp;clear hp;by_cases b1:pn<0
   ·have hp:=HP.out;have e:=HFk.out (by unfold za;simp only;omega);subst e
    go_wp2_with fail
    go_ret
    exact ⟨rfl,by go_grown⟩
   by_cases b2:5<=pn
   ·have e:=HFk.out (by unfold za;simp only;omega);subst e
    go_wp2_with fail
    go_ret
    exact ⟨rfl,by go_grown⟩
   by_cases b3:pe<1
   ·have e:=HFk.out (by unfold za;simp only;omega);subst e
    go_wp2_with fail
    go_ret
    exact ⟨rfl,by go_grown⟩
   by_cases b4:1048576<pe
   ·have e:=HFk.out (by unfold za;simp only;omega);subst e
    go_wp2_with fail
    go_ret
    exact ⟨rfl,by go_grown⟩
   have HG:=Lib.hid (HQ.out (by unfold za;simp only;omega))
   go_wp2_with fail
   go_roundw
   case rel=>exact ⟨k+1,by omega,by go_num,HG.out,by go_grown⟩
   case measure=>simp [intOf];omega
  obtain rfl:k=4:=oQ;have e:=H0.out HA.out;subst e;clear hall
  go_wp2_with fail
  go_ret
  exact ⟨rfl,by go_grown⟩
structure Ac where
 kd:Int
 nd:Int
 qu:Int
 at_:Int
 kp:Int
 ek:Int
 ep:Int
 ei:Int
 eb:Int
 eh:Int
 en:Int
def Ac.ints (x:Ac):List Int:=[x.kd,x.nd,x.qu,x.at_,x.kp,x.ek,x.ep,x.ei,x.eb,x.eh,x.en]
def MG (l:List Int):List Value:=l.map (Value.int .i64)
def Ac.cells (x:Ac):List Value:=[iV x.kd,iV x.nd,iV x.qu,iV x.at_,iV x.kp,iV x.ek,iV x.ep,iV x.ei,iV x.eb,iV x.eh,iV x.en]
theorem Ac.af8 (x:Ac):x.cells=MG x.ints:=rfl
def Ac.get (x:Ac) (i:Nat):Int:=x.ints.getD i 0
theorem Ac.cell (x:Ac) {i:Nat} (h:i<11):x.cells[i]? =some (iV (x.get i)):=by
 rw [Ac.af8,MG,List.getElem?_map,List.getElem?_eq_getElem (by exact h)];have e:x.get i=x.ints[i]'h:=by simp only [Ac.get,List.getD_eq_getElem?_getD,List.getElem?_eq_getElem (show i<x.ints.length from h),Option.getD_some];rfl
 rw [e];rfl
def bP (kd ek:Int):Option (List (Nat×Int)):=
 if kd=1 then some [(2,3),(1,4)] else if kd=10 then some [(2,3),(1,4)] else if kd=3 then some [(1,4)] else if kd=9 then some [(1,4)]
 else if kd=8 then some [(1,4),(4,100000)] else if kd=4 then some [(3,1048576)] else if kd=5 then some [(3,1048576)] else if kd=6 then some [(3,1048576)]
 else if kd=7 then some [] else if kd=2 then (if ek=1 then some [(1,4),(2,3),(6,3),(7,1073741824),(8,1000000)] else if ek=2 then some [(1,4),(2,3)]
 else if ek=3 then some [(1,4),(2,3),(9,1048576),(10,1073741824)] else none) else none
theorem kinds (kd ek:Int):kd=1\/kd=10\/kd=3\/kd=9\/kd=8\/kd=4\/kd=5\/kd=6\/kd=7\/(kd=2/\ek=1)\/(kd=2/\ek=2)\/(kd=2/\ek=3)\/bP kd ek=none:=by
 by_cases h1:kd=1
 ·simp [h1]
 by_cases h10:kd=10
 ·simp [h10]
 by_cases h3:kd=3
 ·simp [h3]
 by_cases h9:kd=9
 ·simp [h9]
 by_cases h8:kd=8
 ·simp [h8]
 by_cases h4:kd=4
 ·simp [h4]
 by_cases h5:kd=5
 ·simp [h5]
 by_cases h6:kd=6
 ·simp [h6]
 by_cases h7:kd=7
 ·simp [h7]
 by_cases h2:kd=2
 ·by_cases e1:ek=1
  ·simp [h2,e1]
  by_cases e2:ek=2
  ·simp [h2,e2]
  by_cases e3:ek=3
  ·simp [h2,e3]
  simp [bP,h2,e1,e2,e3]
 simp [bP,h2,h1,h10,h3,h9,h8,h4,h5,h6,h7]
theorem Qe {kd ek:Int} {l:List (Nat×Int)} (h:bP kd ek=some l): ∀ p∈l,1<=p.1/\p.1<11/\p.1≠5:=by
 rcases kinds kd ek with rfl | rfl | rfl | rfl | rfl | rfl | rfl | rfl | rfl | ⟨rfl,rfl⟩ | ⟨rfl,rfl⟩ | ⟨rfl,rfl⟩ | hn
 all_goals first | (rw [hn] at h;cases h;done) | (simp [bP] at h;subst h;decide)
theorem af9 {kd ek:Int} {l:List (Nat×Int)} (h:bP kd ek=some l):l.length<=5:=by
 rcases kinds kd ek with rfl | rfl | rfl | rfl | rfl | rfl | rfl | rfl | rfl | ⟨rfl,rfl⟩ | ⟨rfl,rfl⟩ | ⟨rfl,rfl⟩ | hn
 all_goals first | (rw [hn] at h;cases h;done) | (simp [bP] at h;subst h;decide)
def Oi (x:Ac) (p:Nat×Int):Bool:=decide (0<=x.get p.1/\x.get p.1<=p.2)
def zL (c:List Int) (l:List (Nat×Int)):List Int:=l.foldl (λc p=>c.set p.1 0) c
def fin (x:Ac) (l:List (Nat×Int)):List Int:=(if x.kd=2 then (zL x.ints l).set 5 0 else zL x.ints l).set 0 0
def zeros:List Int:=[0,0,0,0,0,0,0,0,0,0,0]
def bY (x:Ac):Int:=match bP x.kd x.ek with
 | none=>3
 | some l=>if l.all (Oi x)=true then (if fin x l=zeros then 0 else 3) else 2
def keep (x:Ac):Ac:=
 if x.kd=1 then ⟨x.kd,x.nd,x.qu,0,0,0,0,0,0,0,0⟩ else if x.kd=10 then ⟨x.kd,x.nd,x.qu,0,0,0,0,0,0,0,0⟩ else if x.kd=3 then ⟨x.kd,x.nd,0,0,0,0,0,0,0,0,0⟩ else if x.kd=9 then ⟨x.kd,x.nd,0,0,0,0,0,0,0,0,0⟩
 else if x.kd=8 then ⟨x.kd,x.nd,0,0,x.kp,0,0,0,0,0,0⟩ else if x.kd=4 then ⟨x.kd,0,0,x.at_,0,0,0,0,0,0,0⟩ else if x.kd=5 then ⟨x.kd,0,0,x.at_,0,0,0,0,0,0,0⟩ else if x.kd=6 then ⟨x.kd,0,0,x.at_,0,0,0,0,0,0,0⟩
 else if x.kd=7 then ⟨x.kd,0,0,0,0,0,0,0,0,0,0⟩ else if x.ek=1 then ⟨x.kd,x.nd,x.qu,0,0,x.ek,x.ep,x.ei,x.eb,0,0⟩ else if x.ek=2 then ⟨x.kd,x.nd,x.qu,0,0,x.ek,0,0,0,0,0⟩ else ⟨x.kd,x.nd,x.qu,0,0,x.ek,0,0,0,x.eh,x.en⟩
theorem aga {x:Ac} {l:List (Nat×Int)} (h:bP x.kd x.ek=some l):x.ints=(keep x).ints↔fin x l=zeros:=by
 obtain ⟨kd,nd,qu,at_,kp,ek,ep,ei,eb,eh,en⟩:=x
 rcases kinds kd ek with rfl | rfl | rfl | rfl | rfl | rfl | rfl | rfl | rfl | ⟨rfl,rfl⟩ | ⟨rfl,rfl⟩ | ⟨rfl,rfl⟩ | hn
 all_goals first | (dsimp only at h;rw [hn] at h;cases h) | (simp [bP] at h;subst h;simp [Ac.ints,keep,fin,zL,zeros];try omega)
theorem akx {x y:Ac} (h:x.ints=y.ints):x=y:=by
 obtain ⟨a1,a2,a3,a4,a5,a6,a7,a8,a9,a10,a11⟩:=x;obtain ⟨b1,b2,b3,b4,b5,b6,b7,b8,b9,b10,b11⟩:=y;simpa [Ac.ints] using h
section
variable {x:Ac} {l:List (Nat×Int)}
theorem Zp (h:bP x.kd x.ek=none):bY x=3:=by unfold bY;rw [h]
theorem Ki (h:bP x.kd x.ek=some l) (ha: ¬ l.all (Oi x)=true):bY x=2:=by unfold bY;rw [h];exact if_neg ha
theorem Qf (h:bP x.kd x.ek=some l) (ha:l.all (Oi x)=true) (hf: ¬ fin x l=zeros):bY x=3:=by unfold bY;rw [h];simp only [if_pos ha,if_neg hf]
theorem amB (h:bP x.kd x.ek=some l) (ha:l.all (Oi x)=true) (hf:fin x l=zeros):bY x=0:=by unfold bY;rw [h];simp only [if_pos ha,if_pos hf]
theorem agb {k:Nat} {p:Nat×Int} (h:l[k]? =some p) (ha:(l.take k).all (Oi x)=true) (hp:0<=x.get p.1/\x.get p.1<=p.2):(l.take (k+1)).all (Oi x)=true:=by
 rw [List.take_add_one,h,List.all_append,ha];simp [Oi,hp]
theorem Zq {k:Nat} {p:Nat×Int} (h:l[k]? =some p) (hp: ¬ (0<=x.get p.1/\x.get p.1<=p.2)): ¬ l.all (Oi x)=true:=λha=>by
 have:=List.all_eq_true.1 ha p (List.mem_of_getElem? h);simp only [Oi,decide_eq_true_eq] at this;exact hp this
theorem agc {c:List Int} {k:Nat} {p:Nat×Int} (h:l[k]? =some p):(zL c (l.take k)).set p.1 0=zL c (l.take (k+1)):=by
 unfold zL;rw [List.take_add_one,h,List.foldl_append];rfl
theorem yK (c:List Int): ∀ (l:List (Nat×Int)),(zL c l).length=c.length
 | []=>rfl
 | p::l=>by
  show (zL (c.set p.1 0) l).length=_
  rw [yK _ l,List.length_set]
theorem SL: ∀ (l:List (Nat×Int)) (c:List Int),(∀ p∈l,1<=p.1)->(zL c l)[0]? =c[0]?
 | [],_,_=>rfl
 | p::l,c,h=>by
  show (zL (c.set p.1 0) l)[0]? =_
  rw [SL l _ λq hq=>h q (List.mem_cons_of_mem _ hq),List.getElem?_set_ne (by have:=h p (List.mem_cons_self ..);omega)]
end
def pG (c:List Int):Array Value:=(MG c).toArray
theorem ng {c:List Int} (h:c.length=11):(pG c).size=11:=by simp [pG,MG,h]
theorem aaW {c:List Int} {i:Nat} {v:Int} (h:c[i]? =some v):(pG c)[i]? =some (iV v):=by simp [pG,MG,h]
theorem Cg {c:List Int} {i:Nat}:(pG c).setIfInBounds i (iV 0)=pG (c.set i 0):=by
 apply Array.toList_inj.1;simp [pG,MG,Array.toList_setIfInBounds,List.map_set]
theorem aky:flat Tryz.prog 30 71=some (List.replicate 11 (.at_ (.int .i64))):=kQ
theorem akz:EP Tryz.prog 30 71=true:=kQ
theorem aqP (xs:List Value):mkV Tryz.prog 71 xs= .agg xs.toArray:=by
 unfold mkV;rw [Tryz.underlying71]
theorem aeB {a b:List Int} (ha:a.length=11) (hb:b.length=11) (w:World):(binOp .neq 71 (.agg (pG a)) (.agg (pG b))).run Tryz.prog w= .ok (.bool (!decide (a=b))) w:=by
 have k1:=yJ a;have k2:=yJ b;rw [ha] at k1;rw [hb] at k2;have h:=oF (P:=Tryz.prog) w aky akz aqP k1 k2;rw [zK (by rw [ha,hb])] at h;exact h
end
section
open ChangeShapes WideShapes ChangeAt RowKit
theorem Zr:ownKnob Tryz.prog.godebug=none:=kQ
theorem agf:Tryz.prog.globalNamed "berthshift/directory.nowhere" =some 0:=kQ
theorem QO:(Tryz.prog.globals[0]?).map (·.type)=some 27:=kQ
theorem lt_of_cell {w:World} {p:Addr} {u:Value} (h:w.cell? p=some u):p.block<w.heap.size:=by
 rcases Nat.lt_or_ge p.block w.heap.size with h1 | h1
 ·exact h1
 have h2:w.heap[p.block]? =none:=Array.getElem?_eq_none h1;simp [World.cell?,h2] at h
section
variable {H:Type} {enc:TypeId×Value->H} {P:Program}
theorem Ch {f:FuncId} {fn:Func} {s:ChangeSpec} {bt:TypeId} (hts:YV P fn.params.toList=true) (hvars:s.vars=[]) (hres:fn.resultTypes= #[bt]) (hbt:P.underlying bt=some .bool)
  (hs: ∀ ds:List (DataW H),ds.length=fn.params.toList.length->s.fn H ds={ results:=[.lit (.bool true)],args:=ds })
  (W:World) (base:Nat) (args:Array Value) (ds gs:List (DataW H)) (before:List MemPlace)
  (walk:dR (Qw P W) args.toList fn.params.toList->Calls P f args W λe W'=>e= .returned (.bool true)/\Below W.heap.size W W')
  (hval: ∀ (j:Nat) t v,fn.params[j]? =some t->args[j]? =some v->Value.okWide P W .any base t v)
  (hW:DataW.Whole enc P fn.params.toList s.vars false W args.toList ds gs before)
  (hz:(DataW.weightsEach P (fn.params.toList++s.plain.varTypes P) (ds++gs)).all (· <=reachBytes)=true):
  Calls P f args W λe W'=> ∃ v,e= .returned v/\s.post enc P fn false true false false W args v W':=by
 simp only [YV,Bool.and_eq_true,List.all_eq_true,decide_eq_true_eq] at hts;obtain ⟨hl,hts⟩:=hts;have hW':=hW;have hlt:=hW.lt;obtain ⟨p,q,hA,hV,rfl,_,_⟩:=hW;rw [hvars] at hV;have hg:gs=[]/\q=[]:=by
  cases gs with
  | nil=>exact ⟨rfl,hV⟩
  | cons g gs=>exact hV.elim
 obtain ⟨rfl,rfl⟩:=hg;have hvt:s.plain.varTypes P=[]:=by unfold DataSpec.varTypes ChangeSpec.plain;simp [hvars]
 rw [hvt,List.append_nil,List.append_nil] at hz;have hzz: ∀ b∈DataW.weightsEach P fn.params.toList ds,b<=reachBytes:=λb hb=>by simpa using List.all_eq_true.1 hz b hb
 have hargs:=YU hA (λj t v h1 h2=>hval j t v (by simpa using h1) (by simpa using h2)) (λt ht=>(hts t ht).1.1) hzz (λx hx=>hlt x (List.mem_append.2 (.inl hx)));have hlen:ds.length=fn.params.toList.length:=by
  have: ∀ {ts:List TypeId} {vs:List Value} {ds:List (DataW H)} {ps:List MemPlace},DataW.TrodAll enc P W 0 (λ_=>true) true ts vs ds ps->ds.length=ts.length:=by
   intro ts
   induction ts with
   | nil=>intro vs ds ps h;obtain ⟨_,rfl,_⟩:=trodAll_nil h;rfl
   | cons t ts ih=>
    intro vs ds ps h;obtain ⟨v,vs',d,ds',p,q,rfl,rfl,rfl,h0,h1⟩:=trodAll_cons h;simp [ih h1]
  exact this hA
 refine (walk hargs).mono λe W' ⟨he,hb⟩=>?_;have hsd:=hs (ds++[]) (by simpa using hlen);refine ⟨_,he,ds,[],p++[],[],p,[],hW',?_,?_,?_,hb.frame _,λh=>by cases h⟩
 ·rw [hsd,hres];exact trodAll_mk1 (shut_bool hbt true)
 ·rw [hsd];simp only [List.append_nil];exact DK hl hb hA (λt ht=>⟨(hts t ht).1.2,(hts t ht).2⟩) (λx hx=>hlt x (List.mem_append.2 (.inl hx)))
 rw [hsd,hvars];simp [DataW.TrodVars]
end
end
end Go.Proofs.YtlfgjcahpppbbaaGreatDoor
