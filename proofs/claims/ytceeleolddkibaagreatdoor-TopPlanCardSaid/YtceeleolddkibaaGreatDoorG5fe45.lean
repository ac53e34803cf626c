import Derived.Deep.RegionWith
import Derived.Test.YtceeleolddkibaaGreatDoorG37a0f
set_option linter.all false
set_option maxRecDepth 100000
set_option maxHeartbeats 8000000
namespace Go.Proofs.YtceeleolddkibaaGreatDoor
open List Nat Go.Proofs.Tryz ChangeShapes WideShapes RowKit
def Ow(a b:Nat)(h:a<4611686018427387904)(I:b<4611686018427387904):bits .or .i64 (a:Int) (b:Int)=((a ||| b:Nat):Int):=by
 have J:a ||| b<2 ^ 62:=or_lt_two_pow Y Y
 show IntKind.i64.wrap ((BitVec.ofInt 64 (a:Int) ||| BitVec.ofInt 64 (b:Int)).toNat:Int)=_
 rw[BitVec.toNat_or,ofInt_u64 a Y,ofInt_u64 b Y,IntKind.wrap_i64];omega
def ahR(v x i:Nat)(h:x<2 ^ i):(v*2 ^ i) ||| x=v*2 ^ i+x:=by
 rw[<-shiftLeft_eq,shiftLeft_add_eq_or_of_lt h]
def or8(v x:Int)(I:0<=v)(h1:v<=1099511627776)(J:0<=x)(M:x<=255):bits .or .i64 (v*256) x=v*256+x:=by
 obtain⟨a,rfl⟩:=oF I;obtain⟨b,rfl⟩:=oF J;have e:((a:Int)*256)=((a*256:Nat):Int):=Y;have h:=ahR a b 8 Y;rw[e,Ow _ _ Y Y];simp only[reducePow]at h;rw[h];omega
def aDi(v x:Int)(I:0<=v)(h1:v<=1099511627776)(J:0<=x)(M:x<=65535):bits .or .i64 (v*65536) x=v*65536+x:=by
 obtain⟨a,rfl⟩:=oF I;obtain⟨b,rfl⟩:=oF J;have e:((a:Int)*65536)=((a*65536:Nat):Int):=Y;have h:=ahR a b 16 Y;rw[e,Ow _ _ Y Y];simp only[reducePow]at h;rw[h];omega
def aDj(x:Int)(h:0<=x)(I:x<=255):bits .or .i64 0 x=x:=by
 have:=or8 0 x Y Y h I;simpa using this
section
open ChangeAt
def kI{l:QF}{x:Operand}{v:Value}(h:ev l x=some v):EvO l (some x) (some v):=h
def qD{l:QF}:EvO l none none:=trivial
def aup{kd:IntKind}{a b:Int}(h:a=b):some (Value.int kd a)=some (Value.int kd b):=by rw[h]
section
variable {P:Program}{w:World}{t e:TypeId}{A:Option Addr}{n c s B:Nat}{xs:List Value}{kd ke kf:IntKind}
def tC{i:Int}(k y:Nat)(code:BoundsCode)(h:i=k)(I:k<=y)(w:World):(Instr.sliceBound (.int kd i) y code).run P w=.ok k w:=by
 subst h;have h1:(0:Int)<=k/\(k:Int)<=y:=Y;simp[Instr.sliceBound,asIntOf,Sem.run_bind,Result.andThen,h1,I]
def ali{i:Int}(l:Nat)(hi:i=l)(h:l<=n)(w:World):(Instr.sliceBounds true n c (some (.int kd i)) none none).run P w=.ok (l,n,c) w:=by
 simp[Instr.sliceBounds,Sem.run_bind,Result.andThen,tC l n _ hi h]
def aDk{i:Int}(k:Nat)(hi:i=k)(h:k<=c)(w:World):(Instr.sliceBounds true n c none (some (.int kd i)) none).run P w=.ok (0,k,c) w:=by
 simp[Instr.sliceBounds,Sem.run_bind,Result.andThen,tC k c _ hi h]
def ZK{i j:Int}(l k:Nat)(hi:i=l)(J:j=k)(I:l<=k)(h:k<=c)(w:World):(Instr.sliceBounds true n c (some (.int kd i)) (some (.int ke j)) none).run P w=.ok (l,k,c) w:=by
 simp[Instr.sliceBounds,Sem.run_bind,Result.andThen,tC k c _ J h,tC l k _ hi I]
def ap1{j m:Int}(k q:Nat)(J:j=k)(M:m=q)(I:k<=q)(h:q<=c)(w:World):(Instr.sliceBounds true n c none (some (.int ke j)) (some (.int kf m))).run P w=.ok (0,k,q) w:=by
 simp[Instr.sliceBounds,Sem.run_bind,Result.andThen,tC q c _ M h,tC k q _ J I]
def ahS{i j m:Int}(l k q:Nat)(hi:i=l)(M:j=k)(O:m=q)(I:l<=k)(J:k<=q)(h:q<=c)(w:World):(Instr.sliceBounds true n c (some (.int kd i)) (some (.int ke j)) (some (.int kf m))).run P w=.ok (l,k,q) w:=by
 simp[Instr.sliceBounds,Sem.run_bind,Result.andThen,tC q c _ O h,tC k q _ M J,tC l k _ hi I]
def add_block(a:Addr)(k:Nat):a.block=(a.add k).block:=by
 unfold Addr.add
 split<;>rfl
def Er{lo hi mx:Option Value}{l k q:Nat}(J:P.underlying t=some (.slice e))(Z:(P.info? e).map (·.size)=some s)(O:∀w,(Instr.sliceBounds true n c lo hi mx).run P w=.ok (l,k,q) w)(hlk:l<=k)(hkn:k<=n)(hkq:k<=q):
 ∃A',(∀w,(Instr.sliceAt t (.slice A n c) lo hi mx).run P w=.ok (.slice A' (k-l) (q-l)) w)/\(∀(w:World) (B:Nat) (xs:List Value),Rd w B s A n xs->Rd w B s A' (k-l) ((xs.drop (l*s)).take ((k-l)*s)))/\ ∀M,A'=some M-> ∃a,A=some a/\a.block=M.block:=by
 obtain⟨z,hq,hs⟩:∃z,P.info? e=some z/\z.size=s:=by
  cases h:P.info? e with
  |none=>simp[h]at Z
  |some z=>exact⟨z,E,by simpa[h]using Z⟩
 refine⟨if q=l then A else A.map (·.add (l*s)),λw=>?_,?_,?_⟩
 ·have h1:(sizeOf e).run P w=.ok s w:=by simp[sizeOf,typeInfo,hq,hs,Sem.run_bind,Result.andThen]
  simp[Instr.sliceAt,Instr.slice,run_underlying J,Sem.run_bind,Result.andThen,O,h1]
 ·intro w B xs hR;refine⟨?_,λhn=>?_⟩
  ·rw[dV,dL,hR.1,<-GI];exact LH (Bd _ Y)
  obtain⟨b,off,rfl,O,I⟩:=hR.2 Y;rw[ah Y];refine⟨b,off+l*s,?_,O,λj u J=>?_⟩
  ·simp only[Option.map_some,Option.some.injEq];rw[Go.WideShapes.add_plain]
  rw[jT];refine I _ u ?_;have hj:j< (k-l)*s:=by
   have:=(cK.1 J).1;rw[dV]at this;omega
  rw[yJ hj,Dz]at J;exact J
 intro M h
 split at h
 ·exact⟨M,h,E⟩
 cases A with
 |none=>cases h
 |some a=>cases h;exact⟨a,E,add_block a _⟩
def aeL{lo hi mx:Option Value}{l k q:Nat}(O:P.underlying t=some (.slice e))(Z:(P.info? e).map (·.size)=some s)(hb:∀w,(Instr.sliceBounds true n c lo hi mx).run P w=.ok (l,k,q) w)(hR:Rd w B s A n xs)(h:l<=k)(I:k<=n)(J:k<=q):
 ∃A',(∀w,(Instr.sliceAt t (.slice A n c) lo hi mx).run P w=.ok (.slice A' (k-l) (q-l)) w)/\Rd w B s A' (k-l) ((xs.drop (l*s)).take ((k-l)*s))/\ ∀M,A'=some M-> ∃a,A=some a/\a.block=M.block:=by
 obtain⟨A',h1,h2,h3⟩:=Er (A:=A) O Z hb h I J;exact⟨A',h1,h2 _ _ _ hR,h3⟩
def ajq{lo hi mx:Option Value}{l k q:Nat}(M:P.underlying t=some (.slice e))(O:(P.info? e).map (·.size)=some s)(Z:∀w,(Instr.sliceBounds true n c lo hi mx).run P w=.ok (l,k,q) w)(hR:Rd w B s A n xs)(h:l<=k)(I:k<=n)(J:k<=q):
 ∃A',(∀w,(Instr.sliceAt t (.slice A n c) lo hi mx).run P w=.ok (.slice A' (k-l) (q-l)) w)/\Rd w B s A' (k-l) ((xs.drop (l*s)).take ((k-l)*s)):=by
 obtain⟨A',h1,h2,_⟩:=aeL M O Z hR h I J;exact⟨A',h1,h2⟩
def ap2{x y:Int}{ts:Array TypeId}{ty:TypeId}{cs:Array Bool}:(builtin .min ts ty cs #[.int kd x,.int kd y]).run P w=.ok (.value (.int kd (min x y))) w:=by
 have:(if y<x then y else x)=min x y:=by split<;>omega
 simp[builtin,run_min_int2,Sem.run_bind,Result.andThen,this]
def ap3{x y:Int}{ts:Array TypeId}{ty:TypeId}{cs:Array Bool}:(builtin .max ts ty cs #[.int kd x,.int kd y]).run P w=.ok (.value (.int kd (max x y))) w:=by
 have:(if y>x then y else x)=max x y:=by split<;>omega
 simp[builtin,run_max_int2,Sem.run_bind,Result.andThen,this]
def Y9{x y:Nat}{ts:Array TypeId}{ty:TypeId}{cs:Array Bool}:(builtin .min ts ty cs #[.int kd x,.int kd y]).run P w=.ok (.value (.int kd ((min x y:Nat):Int))) w:=by
 rw[ap2,show min (x:Int) (y:Int)=((min x y:Nat):Int) by omega]
def K9{op:BinOp}{xo yo:Operand}{a b:Array Value}{v:Value}(I:P.eqGuardType P.depth t=false)(h:(binOp op t (.agg a) (.agg b)).run P w=.ok v w):(do eqGuard op t xo yo (.agg a) (.agg b);binOp op t (.agg a) (.agg b):Sem Value).run P w=.ok v w:=by
 have h1:(eqGuard op t xo yo (.agg a) (.agg b)).run P w=.ok () w:=by
  have J:∀w,(program:Sem Program).run P w=.ok P w:=λ_=>E;unfold eqGuard
  cases op<;>first|rfl|simp[J,Sem.run_bind,Result.andThen,I]
 rw[Sem.run_bind,h1];exact h
def aeM{s t:TypeId}{k:IntKind}{x:Int}(hs:(P.underlying s).isSome=true)(h:P.underlying t=some (.int k)){z:Int}(I:k.wrap x=z):(convert s t (.int kd x)).run P w=.ok (.int k z) w:=by
 obtain⟨ds,hs⟩:=Option.isSome_iff_exists.1 hs;subst I;simp[convert,Sem.run_bind,run_underlying hs,run_underlying h,Result.andThen,Conv.intToInt]
def UU(a:UInt8):0<=(a.toNat:Int)/\(a.toNat:Int)<=255:=by
 have:=a.toNat_lt;omega
def TS{s t:TypeId}{a:UInt8}(hs:P.underlying s=some (.int .u8))(h:P.underlying t=some (.int .i64)):(convert s t (.int .u8 (a.toNat:Int))).run P w=.ok (D (a.toNat:Int)) w:=
 aeM (by rw[hs];rfl) h (Vx (by have:=UU a;omega) (by have:=UU a;omega))
def ahT{xo yo:Operand}{x z:Int}(h:x*256=z)(I:0<=x)(h1:x<=1099511627776):(do eqGuard .shl t xo yo (D x) (.int .u64 8);binOp .shl t (D x) (.int .u64 8):Sem Value).run P w=.ok (D z) w:=by
 subst h;have:IntKind.i64.wrap (x*256)=x*256:=Vx Y Y;simp[binOp,eqGuard_shl,shift_shl_i64,this]
def azW{xo yo:Operand}{v x z:Int}(h:v*256+x=z)(I:0<=v)(h1:v<=1099511627776)(J:0<=x)(M:x<=255):(do eqGuard .or t xo yo (D (v*256)) (D x);binOp .or t (D (v*256)) (D x):Sem Value).run P w=.ok (D z) w:=by
 subst h;have:=or8 v x I h1 J M;simp[binOp,eqGuard_or,intBits_or,this]
def Rn{b:List UInt8}{lo hi mx:Option Value}{l k q m c':Nat}(O:P.underlying t=some (.slice e))(Z:(P.info? e).map (·.size)=some 1)(hb:∀w,(Instr.sliceBounds true b.length c lo hi mx).run P w=.ok (l,k,q) w)(hR:Rd w B 1 A b.length (JV b))
  (h:l<=k) (I:k<=b.length) (J:k<=q) (hm:k-l=m) (hc:q-l=c'):∃A',(∀w,(Instr.sliceAt t (.slice A b.length c) lo hi mx).run P w=.ok (.slice A' m c') w)/\Rd w B 1 A' m (JV ((b.drop l).take m)):=by
 subst hm;subst hc;obtain⟨A',h1,M⟩:=ajq O Z hb hR h I J;refine⟨A',h1,?_⟩;rw[Bq,Bq]at M;simpa[JV,map_drop,map_take]using M
def anT{b:List UInt8}{lo hi mx:Option Value}{l k q m c':Nat}(Z:P.underlying t=some (.slice e))(hz:(P.info? e).map (·.size)=some 1)(hb:∀w,(Instr.sliceBounds true b.length c lo hi mx).run P w=.ok (l,k,q) w)
  (I:l<=k) (J:k<=b.length) (M:k<=q) (hm:k-l=m) (hc:q-l=c'):∃A',(∀w,(Instr.sliceAt t (.slice A b.length c) lo hi mx).run P w=.ok (.slice A' m c') w)/\(∀(w:World) (B:Nat),Rd w B 1 A b.length (JV b)->Rd w B 1 A' m (JV ((b.drop l).take m)))/\ ∀O,A'=some O-> ∃a,A=some a/\a.block=O.block:=by
 subst hm;subst hc;obtain⟨A',h1,h,h3⟩:=Er (A:=A) Z hz hb I J M;refine⟨A',h1,λw B hR=>?_,h3⟩
 replace h:=h w B _ hR
 rw[Bq,Bq]at h;simpa[JV,map_drop,map_take]using h
end
end
def azX:List Sh:=[.at_ (.int .i64),.at_ .bool,.at_ .bool,.at_ .bool,.at_ .bool,.at_ .bool,.at_ .bool,.at_ .bool,.at_ .bool]
def mX.kd(a:mX):fI Kd a.cells azX:=⟨⟨_,E⟩,⟨_,E⟩,⟨_,E⟩,⟨_,E⟩,⟨_,E⟩,⟨_,E⟩,⟨_,E⟩,⟨_,E⟩,⟨_,E⟩,trivial⟩
section
open ChangeAt
def Ww{α:Type}{enc:α->List Value}{sz:Nat}(h:∀x,(enc x).length=sz):∀(k:Nat) (l:List α),(l.flatMap enc).drop (k*sz)=(l.drop k).flatMap enc
 | 0,l=>by simp
 |k+1,[]=>by simp
 |k+1,x::l=>by rw[nK,mK,qR,<-lT,drop_left' (h x),Ww h k l];rfl
def Wx{α:Type}{enc:α->List Value}{sz:Nat}(h:∀x,(enc x).length=sz):∀(k:Nat) (l:List α),(l.flatMap enc).take (k*sz)=(l.take k).flatMap enc
 | 0,l=>by simp
 |k+1,[]=>by simp
 |k+1,x::l=>by rw[nK,mK,qR,take_append,h x,jE (by rw[h x];omega),GV,Wx h k l];rfl
def Jk{P:Program}{t e:TypeId}{α:Type}{enc:α->List Value}{s:Nat}(h:∀x,(enc x).length=s){A:Option Addr}{b:List α}{n c:Nat}{lo hi mx:Option Value}{l k q m c':Nat}(hu:P.underlying t=some (.slice e))(hz:(P.info? e).map (·.size)=some s)(hb:∀w,(Instr.sliceBounds true n c lo hi mx).run P w=.ok (l,k,q) w)
  (J:l<=k) (M:k<=n) (O:k<=q) (hm:k-l=m) (hc:q-l=c'):∃A',(∀w,(Instr.sliceAt t (.slice A n c) lo hi mx).run P w=.ok (.slice A' m c') w)/\(∀(w:World) (B:Nat),Rd w B s A n (b.flatMap enc)->Rd w B s A' m (((b.drop l).take m).flatMap enc))/\ ∀Z,A'=some Z-> ∃a,A=some a/\a.block=Z.block:=by
 subst hm;subst hc;obtain⟨A',h1,I,h3⟩:=Er (A:=A) hu hz hb J M O;refine⟨A',h1,λw B hR=>?_,h3⟩
 replace I:=I w B _ hR
 rw[Ww h,Wx h]at I;exact I
end
section
open Go.RowKit
def Hg:(prog.info? 5).map (λi=>(i.zero,i.size,i.bytes))=some (some (.int .u8 0),1,1):=kQ
def rC:List UInt8->Int×Int
 |a::b::c::d::_=>if 127<a.toNat then(0,2)else(16777216*(a.toNat:Int)+65536*(b.toNat:Int)+256*(c.toNat:Int)+(d.toNat:Int),0)
 |_=>(0,4)
def KL{l:List UInt8}(h:l.length<4):rC l=(0,4):=by
 match l,h with
 |[],_=>rfl
 |[_],_=>rfl
 |[_,_],_=>rfl
 |[_,_,_],_=>rfl
def anU{l:List UInt8}(h:¬l.length<4):∃a b c d r,l=a::b::c::d::r:=by
 match l,h with
 |a::b::c::d::r,_=>exact⟨a,b,c,d,r,E⟩
 |[],h=>simp at h
 |[_],h=>simp at h
 |[_,_],h=>simp at h
 |[_,_,_],h=>simp at h
def ZL(a:UInt8):0<=(a.toNat:Int)/\(a.toNat:Int)<=255:=by
 have:=a.toNat_lt;omega
def aa6(A:Option Addr)(n c:Nat)(l:List UInt8)(w:World){B:Nat}(h:Rd w B 1 A n (JV l))(hn:n<=c):
 Calls prog 109 #[.slice A n c] w λe w'=>e=.returned (.tuple #[.int .i64 (rC l).1,.int .i64 (rC l).2])/\w=w':=by
 have hl:=h.qx;by_cases h4:l.length<4
 ·rw[KL h4];have hn4:n<4:=Y;clear hl h4
  go_enter func109,Tryz.ntmps109
  go_wp2
  go_ret2
  exact⟨E,E⟩
 have hn4:4<=n:=Y;have hc4:4<=c:=Y;obtain⟨x0,x1,x2,x3,r,rfl⟩:=anU h4;obtain⟨b,off,rfl,_,hcell⟩:=h.2 Y;have c0:=hcell 0 (.int .u8 x0.toNat) E;have c1:=hcell 1 (.int .u8 x1.toNat) E;have c2:=hcell 2 (.int .u8 x2.toNat) E;have c3:=hcell 3 (.int .u8 x3.toNat) E;rw[Nat.add_zero]at c0;have b0:=ZL x0;have b1:=ZL x1;have b2:=ZL x2;have b3:=ZL x3;have q0:=aDj x0.toNat Y Y;have q1:=or8 x0.toNat x1.toNat Y Y Y Y;have q2:=or8 (x0.toNat*256+x1.toNat) x2.toNat Y Y Y Y;have q3:=or8 ((x0.toNat*256+x1.toNat)*256+x2.toNat) x3.toNat Y Y Y Y;have hm:rC (x0::x1::x2::x3::r)=if 127<x0.toNat then(0,2)else(16777216*(x0.toNat:Int)+65536*(x1.toNat:Int)+256*(x2.toNat:Int)+(x3.toNat:Int),0):=rfl
 clear h hl h4 hcell;by_cases hx:127<x0.toNat
 ·rw[hm,aj hx];clear hm
  go_enter func109,Tryz.ntmps109
  go_wp2
  go_rounds 5
  go_ret2
  exact⟨E,E⟩
 rw[hm,ah hx];clear hm
 go_enter func109,Tryz.ntmps109
 go_wp2
 go_rounds 5
 go_ret2
 exact⟨amJ Y,E⟩
end
def Fg(l:List UInt8):Int×Int:=l.foldl (λs c=>(s.1+c.toNat,s.2+(s.1+c.toNat))) (1,0)
def ajr(l:List UInt8)(x:UInt8):Fg (l++[x])=((Fg l).1+x.toNat,(Fg l).2+((Fg l).1+x.toNat)):=by simp[Fg]
def Wz{l:List UInt8}{k:Nat}{x:UInt8}(h:l[k]? =some x):Fg (l.take (k+1))=((Fg (l.take k)).1+x.toNat,(Fg (l.take k)).2+((Fg (l.take k)).1+x.toNat)):=by
 rw[<-ajr,mQ,h];rfl
def aa7(l:List UInt8)(M:l.length<=1048576)(k:Nat)(O:k<=l.length):1<=(Fg (l.take k)).1/\(Fg (l.take k)).1<=1+255*k/\0<=(Fg (l.take k)).2/\(Fg (l.take k)).2<=267386881*k:=by
 induction k with
 |zero=>simp[Fg]
 |succ k I=>
  have I:=I Y;have J:l[k]? =some l[k]:=dJ Y;have h:(l[k]).toNat<=255:=by have:=(l[k]).toNat_lt;omega
  rw[Wz J];generalize Fg (l.take k)=s at I;generalize (l[k]).toNat=v at h;obtain⟨h1,Z,h3,h4⟩:=I;refine⟨?_,?_,?_,?_⟩<;>simp only<;>omega
def CW(l:List UInt8):Int:=(Fg l).2 % 65521*65536+(Fg l).1 % 65521
def Rd.auq{w:World}{B n k:Nat}{A:Option Addr}{l:List UInt8}(h:Rd w B 1 A n (JV l))(J:k<n):∃b off x,A=some ⟨b,off,none⟩/\b<B/\l[k]? =some x/\w.cell? ⟨b,off+k,none⟩=some (.int .u8 x.toNat):=by
 obtain⟨b,off,u,e,M,I,O⟩:=h.at_ J;simp only[JV,getElem?_map,Option.map_eq_some_iff]at I;obtain⟨x,I,rfl⟩:=I;exact⟨b,off,x,e,M,I,O⟩
def Rp(A:Option Addr)(n c:Nat)(l:List UInt8)(w:World){B:Nat}(h:Rd w B 1 A n (JV l))(hn:n<=1048576):
 Calls prog 68 #[.slice A n c] w λe w'=>e=.returned (.int .i64 (CW l))/\ ∃q,w'=w.drewN q:=by
 have hl:=h.qx;have H:=Lib.hid h;have HL:=Lib.hid hl;have HBD:=Lib.hid (aa7 l Y);have HZ0:Hid (∀z,z=CW l->z=(Fg l).2 % 65521*65536+(Fg l).1 % 65521):=Lib.hid (λz h=>h);generalize hz:CW l=z;have HZ:=Lib.hid (HZ0.out z hz.symm);clear h hl hz HZ0
 go_enter func68,Tryz.ntmps68
 go_wp2_with fail
 go_loopw [3,4,9] (λa b i wr=> ∃k:Nat,k<=n/\i=.int .i64 k/\a=.int .i64 ((Fg (l.take k)).1 % 65521)/\b=.int .i64 ((Fg (l.take k)).2 % 65521)/\ ∃q,wr=w.drewN q) (λ_ _ i _=>n-(intOf i).toNat)
 case atStart=>exact⟨0,by omega,E,E,E,0,E⟩
 case round=>
  obtain⟨k,hk,rfl,rfl,rfl,q,rfl⟩:=hrel;obtain⟨b1,b2,b3,b4⟩:=HBD.out k (by have:=HL.out;omega);by_cases hlt:k<n
  ·obtain⟨b,off,x,rfl,hb,hx,hc⟩:=H.out.auq hlt;have hx255:x.toNat<=255:=by have:=x.toNat_lt;omega
   have HE:=Lib.hid (Wz hx);clear hx;generalize Fg (l.take k)=s at HE b1 b2 b3 b4⊢;obtain⟨s1,s2⟩:=s;simp only at b1 b2 b3 b4 HE⊢;have k1:0<=s1 % 65521/\s1 % 65521<65521:=Y;have k2:0<=s2 % 65521/\s2 % 65521<65521:=Y;have HS1:Hid ((s1+(x.toNat:Int)) % 65521=(s1 % 65521+x.toNat) % 65521):=Lib.hid Y;have HS2:Hid ((s2+(s1+(x.toNat:Int))) % 65521=(s2 % 65521+(s1 % 65521+x.toNat) % 65521) % 65521):=Lib.hid Y;obtain⟨k1a,k1b⟩:=k1;obtain⟨k2a,k2b⟩:=k2;generalize s1 % 65521=u1 at HS1 HS2 k1a k1b⊢;generalize s2 % 65521=u2 at HS2 k2a k2b⊢;have m1:(u1+(x.toNat:Int)).tmod 65521=(u1+x.toNat) % 65521:=acN Y;have k3:0<=(u1+(x.toNat:Int)) % 65521/\(u1+(x.toNat:Int)) % 65521<65521:=Y;obtain⟨k3a,k3b⟩:=k3;generalize (u1+(x.toNat:Int)) % 65521=u3 at m1 HS1 HS2 k3a k3b;have m2:(u2+u3).tmod 65521=(u2+u3) % 65521:=acN Y
   go_wp2_with fail
   go_roundw
   case rel=>exact⟨k+1,by omega,by go_num,by rw[HE.out,HS1.out],by rw[HE.out,HS2.out],q,E⟩
   case measure=>simp[intOf];omega
  obtain rfl:k=n:=Y;have e1:l.take k=l:=jE (by have:=HL.out;omega);rw[e1]at b1 b2 b3 b4⊢;clear e1 HBD;generalize Fg l=s at HZ b1 b2 b3 b4⊢;obtain⟨s1,s2⟩:=s;simp only at b1 b2 b3 b4 HZ⊢;have k1:0<=s1 % 65521/\s1 % 65521<65521:=Y;have k2:0<=s2 % 65521/\s2 % 65521<65521:=Y;obtain⟨k1a,k1b⟩:=k1;obtain⟨k2a,k2b⟩:=k2;have ho:=aDi (s2 % 65521) (s1 % 65521) k2a Y k1a Y;have HO:=Lib.hid ho;clear b1 b2 b3 b4
  go_wp2_with fail
  go_ret
  exact⟨by rw[HZ.out];rfl,q,E⟩
def LJ{w:World}{base:Nat}{e:TypeId}{size n c:Nat}{A:Option Addr}{xs:List Value}(h:w.ownsRow base e size (.slice A n c) n xs):n<=c:=by
 obtain⟨A2,c2,hv,I,_⟩:=nZ h;simp only[Value.slice.injEq]at hv;obtain⟨_,_,rfl⟩:=hv;exact I
def acA(w:World)(e:TypeId)(size:Nat):(w.alloc (.cells #[] e)).ownsRow w.heap.size e size (.slice (some ⟨w.heap.size,0,none⟩) 0 0) 0 []:=by
 refine⟨by simp,.inr ⟨w.heap.size,0,#[],E,aB,heap_alloc_new w _,aB,aC _,by simp,by simp⟩⟩
def ahW(A:Option Addr)(n c:Nat)(l:List UInt8)(w:World)(h:Rd w w.heap.size 1 A n (JV l))(hc:n<=reachBytes):
 Calls prog 63 #[.slice A n c] w (kK w 5 1 n (JV l)):=by
 have hc':n<=140737488351232:=hc;obtain⟨i0,hi0,hz0,hz1,hz2⟩:=info_parts Hg
 cases A with
 |none=>
  have hn:n=0:=by
   rcases wD n with h0|h0
   ·exact h0
   obtain⟨b,off,e,_⟩:=h.2 h0
   cases e
  subst hn;have hl:JV l=[]:=GJ (by have:=h.1;omega);rw[hl];clear hl h
  go_enter func63,ntmps63
  have he:= @Lib.run_eql_slice_nil prog
  go_wp2
  go_ret
  exact kK.of (Below.refl _ _) (kC _ _ _ _)
 |some a=>
  go_enter func63,ntmps63
  have he:= @Lib.run_eql_slice_nil prog
  go_wp2_with (at_builtin;refine kP _ E (.tmp 5) (.tmp 6) _ E w.heap.size 5 i0 _ 1 1 Tryz.underlying89 hi0 hz0 hz1 hz2 E Y (.slice (some ⟨w.heap.size,0,none⟩) 0 0) 0 [] E (acA w 5 1) w.heap.size (some a) n c (JV l) E (h.alloc aB _) (UO l) lQ Y iQ ?_;intro v1 w1 hown1 hg1 Pk)
  go_ret
  simp only[Nat.zero_add,nil_append]at hown1;exact kK.of (((Below.refl _ w).alloc aB _).grown hg1 iQ (by simp[Value.ownBlock])) hown1
def dS(l:List UInt8)(s:Int):Bool:=decide (l.length<=100000)&&decide (0<=s)&&decide (s<=l.length)
def La(l:List UInt8)(s:Int):List UInt8×Int×Bool:=if dS l s=true then(l,s,true)else([],0,false)
def Io(w:World)(r:List UInt8×Int×Bool)(e:Ending)(w':World):Prop:=
 ∃A c,e=.returned (.tuple #[.agg #[.slice A r.1.length c,.int .i64 r.2.1],.bool r.2.2])/\Below w.heap.size w w'/\w'.ownsRow w.heap.size 5 1 (.slice A r.1.length c) r.1.length (JV r.1)
def Io.no(w:World){o:Obj}{o':Obj}(W:World)(hW:W=(w.alloc o).alloc o'):Below w.heap.size w W:=by
 subst hW
 go_grown
def ajs(A:Option Addr)(n c:Nat)(l:List UInt8)(s:Int)(w:World)(h:Rd w w.heap.size 1 A n (JV l))(h1:0<=s)(h2:s<=n)(h3:n<=100000):
 Calls prog 46 #[.agg #[.slice A n c,.int .i64 s]] w (Io w (l,s,true)):=by
 have HL:=Lib.hid h.qx;have H:=Lib.hid h;clear h
 go_enter func46,ntmps46
 go_wp2
 go_region_with (go_at_call 63;refine(ahW A n c l _ (by exact H.out.on gQ) hQ).mono ?_;rintro e w1 ⟨A1,c1,rfl,hb1,hown1⟩;obtain⟨hc1,hf1⟩:=FE hb1)
 all_goals (have hz1:=hb1.size;simp at hz1)
 all_goals go_wp2
 all_goals refine bodyPost_ret (v:=.tuple #[.agg #[.slice A1 n c1,.int .i64 s],.bool true]) (by simp[results,results46,go_sem,hc1]) E ?_
 all_goals (have hB:Below w.heap.size w w1:=Below.trans gQ (hb1.mono jQ))
 all_goals (obtain rfl:=HL.out)
 all_goals exact⟨A1,c1,E,by go_grown,(ownsRow_setCell_below (ownsRow_setCell_below (base:=w.heap.size+1+1) (hown1.lower iQ) iQ _) iQ _).lower Y⟩
def anV(A:Option Addr)(n c:Nat)(s:Int)(w:World)(Qz:s<0\/(n:Int)<s\/100000<n):
 Calls prog 46 #[.agg #[.slice A n c,.int .i64 s]] w (Io w ([],0,false)):=by
 by_cases h1:s<0
 ·clear Qz
  go_enter func46,ntmps46
  go_wp2
  refine bodyPost_ret (v:=.tuple #[.agg #[.slice none 0 0,.int .i64 0],.bool false]) (by simp[results,results46,go_sem]) E ?_;exact⟨none,0,E,by go_grown,kC _ _ _ _⟩
 by_cases h2:(n:Int)<s
 ·have h1':0<=s:=Y;clear Qz h1
  go_enter func46,ntmps46
  go_wp2
  refine bodyPost_ret (v:=.tuple #[.agg #[.slice none 0 0,.int .i64 0],.bool false]) (by simp[results,results46,go_sem]) E ?_;exact⟨none,0,E,by go_grown,kC _ _ _ _⟩
 have h1':0<=s:=Y;have h2':s<=n:=Y;have h3:100000<n:=Y;clear Qz h1 h2
 go_enter func46,ntmps46
 go_wp2
 refine bodyPost_ret (v:=.tuple #[.agg #[.slice none 0 0,.int .i64 0],.bool false]) (by simp[results,results46,go_sem]) E ?_;exact⟨none,0,E,by go_grown,kC _ _ _ _⟩
def Es{l:List UInt8}{s:Int}(h1:0<=s)(h:s<=l.length)(I:l.length<=100000):La l s=(l,s,true):=aj (by simp[dS,h1,h,I])
def ajt{l:List UInt8}{s:Int}(h:s<0\/(l.length:Int)<s\/100000<l.length):La l s=([],0,false):=ah (by simp[dS];omega)
def nX(A:Option Addr)(n c:Nat)(l:List UInt8)(s:Int)(w:World)(h:Rd w w.heap.size 1 A n (JV l)):
 Calls prog 46 #[.agg #[.slice A n c,.int .i64 s]] w (Io w (La l s)):=by
 have J:=h.qx;by_cases I:0<=s/\s<=n/\n<=100000
 ·rw[Es I.1 Y Y];exact ajs A n c l s w h I.1 I.2.1 I.2.2
 rw[ajt Y];exact anV A n c s w Y
end Go.Proofs.YtceeleolddkibaaGreatDoor
