import Derived.Laws.BitsAllLaws
import Derived.Test.YtnhimdkpkmbhlaaGreatDoorG7ba5b
set_option maxRecDepth 100000
set_option maxHeartbeats 8000000
set_option linter.unusedSimpArgs false
set_option linter.unusedVariables false
namespace Go.Proofs.YtnhimdkpkmbhlaaGreatDoor
section
theorem I9 (a b:Nat) (ha:a<4611686018427387904) (hb:b<4611686018427387904):bits .or .i64 (a:Int) (b:Int)=((a ||| b:Nat):Int):=by
 have hx:a ||| b<2 ^ 62:=Nat.or_lt_two_pow (by omega) (by omega)
 show IntKind.i64.wrap ((BitVec.ofInt 64 (a:Int) ||| BitVec.ofInt 64 (b:Int)).toNat:Int)=_
 rw [BitVec.toNat_or,ofInt_u64 a (by omega),ofInt_u64 b (by omega),IntKind.wrap_i64];omega
theorem aaR (v x i:Nat) (hx:x<2 ^ i):(v*2 ^ i) ||| x=v*2 ^ i+x:=by
 rw [<-Nat.shiftLeft_eq,Nat.shiftLeft_add_eq_or_of_lt hx]
theorem or8 (v x:Int) (h0:0<=v) (h1:v<=1099511627776) (h2:0<=x) (h3:x<=255):bits .or .i64 (v*256) x=v*256+x:=by
 obtain ⟨a,rfl⟩:=Int.eq_ofNat_of_zero_le h0;obtain ⟨b,rfl⟩:=Int.eq_ofNat_of_zero_le h2;have e:((a:Int)*256)=((a*256:Nat):Int):=by omega
 have h:=aaR a b 8 (by omega);rw [e,I9 _ _ (by omega) (by omega)];simp only [Nat.reducePow] at h;rw [h];omega
theorem avt (v x:Int) (h0:0<=v) (h1:v<=1099511627776) (h2:0<=x) (h3:x<=65535):bits .or .i64 (v*65536) x=v*65536+x:=by
 obtain ⟨a,rfl⟩:=Int.eq_ofNat_of_zero_le h0;obtain ⟨b,rfl⟩:=Int.eq_ofNat_of_zero_le h2;have e:((a:Int)*65536)=((a*65536:Nat):Int):=by omega
 have h:=aaR a b 16 (by omega);rw [e,I9 _ _ (by omega) (by omega)];simp only [Nat.reducePow] at h;rw [h];omega
theorem avu (x:Int) (h2:0<=x) (h3:x<=255):bits .or .i64 0 x=x:=by
 have:=or8 0 x (by omega) (by omega) h2 h3;simpa using this
end
section
open ChangeShapes WideShapes RowKit
def Au (l:List UInt8):Int×Int:=l.foldl (λs c=>(s.1+c.toNat,s.2+(s.1+c.toNat))) (1,0)
theorem ab4 (l:List UInt8) (x:UInt8):Au (l++[x])=((Au l).1+x.toNat,(Au l).2+((Au l).1+x.toNat)):=by simp [Au]
theorem Pd {l:List UInt8} {k:Nat} {x:UInt8} (h:l[k]? =some x):Au (l.take (k+1))=((Au (l.take k)).1+x.toNat,(Au (l.take k)).2+((Au (l.take k)).1+x.toNat)):=by
 rw [<-ab4,List.take_add_one,h];rfl
theorem Uc (l:List UInt8) (hl:l.length<=1048576) (k:Nat) (hk:k<=l.length):1<=(Au (l.take k)).1/\(Au (l.take k)).1<=1+255*k/\0<=(Au (l.take k)).2/\(Au (l.take k)).2<=267386881*k:=by
 induction k with
 | zero=>simp [Au]
 | succ k ih=>
  have ih:=ih (by omega);have hx:l[k]? =some l[k]:=List.getElem?_eq_getElem (by omega);have avv:(l[k]).toNat<=255:=by have:=(l[k]).toNat_lt;omega
  rw [Pd hx];generalize Au (l.take k)=s at ih;generalize (l[k]).toNat=v at avv;obtain ⟨h1,h2,h3,h4⟩:=ih;refine ⟨?_,?_,?_,?_⟩<;>simp only<;>omega
def yC (l:List UInt8):Int:=(Au l).2 % 65521*65536+(Au l).1 % 65521
theorem Rd.ak5 {w:World} {B n k:Nat} {A:Option Addr} {l:List UInt8} (h:Rd w B 1 A n (byteCells l)) (hk:k<n): ∃ b off x,A=some ⟨b,off,none⟩/\b<B/\l[k]? =some x/\w.cell? ⟨b,off+k,none⟩=some (.int .u8 x.toNat):=by
 obtain ⟨b,off,u,e,hb,hx,hc⟩:=h.at_ hk;simp only [byteCells,List.getElem?_map,Option.map_eq_some_iff] at hx;obtain ⟨x,hx,rfl⟩:=hx;exact ⟨b,off,x,e,hb,hx,hc⟩
theorem K6 (A:Option Addr) (n c:Nat) (l:List UInt8) (w:World) {B:Nat} (h:Rd w B 1 A n (byteCells l)) (hn:n<=1048576):
  Calls Tryz.prog 111 #[.slice A n c] w λe w'=>e= .returned (.int .i64 (yC l))/\ ∃ q,w'=w.drewN q:=by
 have hl:=h.mP;have H:=Lib.hid h;have HL:=Lib.hid hl;have HBD:=Lib.hid (Uc l (by omega));have HZ0:Hid (∀ z,z=yC l->z=(Au l).2 % 65521*65536+(Au l).1 % 65521):=Lib.hid (λz h=>h);generalize hz:yC l=z;have HZ:=Lib.hid (HZ0.out z hz.symm);clear h hl hz HZ0
 go_enter Tryz.func111,Tryz.ntmps111
 go_wp2_with fail
 go_loopw [3,4,9] (λa b i wr=> ∃ k:Nat,k<=n/\i= .int .i64 k/\a= .int .i64 ((Au (l.take k)).1 % 65521)/\b= .int .i64 ((Au (l.take k)).2 % 65521)/\ ∃ q,wr=w.drewN q) (λ_ _ i _=>n-(intOf i).toNat)
 case atStart=>exact ⟨0,by omega,rfl,rfl,rfl,0,rfl⟩
 case round=>
  obtain ⟨k,hk,rfl,rfl,rfl,q,rfl⟩:=hrel;obtain ⟨b1,b2,b3,b4⟩:=HBD.out k (by have:=HL.out;omega);by_cases hlt:k<n
  ·obtain ⟨b,off,x,rfl,hb,hx,hc⟩:=H.out.ak5 hlt;have hx255:x.toNat<=255:=by have:=x.toNat_lt;omega
   have HE:=Lib.hid (Pd hx);clear hx;generalize Au (l.take k)=s at HE b1 b2 b3 b4⊢;obtain ⟨s1,s2⟩:=s;simp only at b1 b2 b3 b4 HE⊢;have k1:0<=s1 % 65521/\s1 % 65521<65521:=by omega
   have k2:0<=s2 % 65521/\s2 % 65521<65521:=by omega
   have HS1:Hid ((s1+(x.toNat:Int)) % 65521=(s1 % 65521+x.toNat) % 65521):=Lib.hid (by omega);have HS2:Hid ((s2+(s1+(x.toNat:Int))) % 65521=(s2 % 65521+(s1 % 65521+x.toNat) % 65521) % 65521):=Lib.hid (by omega);obtain ⟨k1a,k1b⟩:=k1;obtain ⟨k2a,k2b⟩:=k2;generalize s1 % 65521=u1 at HS1 HS2 k1a k1b⊢;generalize s2 % 65521=u2 at HS2 k2a k2b⊢;have m1:(u1+(x.toNat:Int)).tmod 65521=(u1+x.toNat) % 65521:=Int.tmod_eq_emod_of_nonneg (by omega);have k3:0<=(u1+(x.toNat:Int)) % 65521/\(u1+(x.toNat:Int)) % 65521<65521:=by omega
   obtain ⟨k3a,k3b⟩:=k3;generalize (u1+(x.toNat:Int)) % 65521=u3 at m1 HS1 HS2 k3a k3b;have m2:(u2+u3).tmod 65521=(u2+u3) % 65521:=Int.tmod_eq_emod_of_nonneg (by omega)
   go_wp2_with fail
   go_roundw
   case rel=>exact ⟨k+1,by omega,by go_num,by rw [HE.out,HS1.out],by rw [HE.out,HS2.out],q,rfl⟩
   case measure=>simp [intOf];omega
  obtain rfl:k=n:=by omega
  have e1:l.take k=l:=List.take_of_length_le (by have:=HL.out;omega);rw [e1] at b1 b2 b3 b4⊢;clear e1 HBD;generalize Au l=s at HZ b1 b2 b3 b4⊢;obtain ⟨s1,s2⟩:=s;simp only at b1 b2 b3 b4 HZ⊢;have k1:0<=s1 % 65521/\s1 % 65521<65521:=by omega
  have k2:0<=s2 % 65521/\s2 % 65521<65521:=by omega
  obtain ⟨k1a,k1b⟩:=k1;obtain ⟨k2a,k2b⟩:=k2;have ho:=avt (s2 % 65521) (s1 % 65521) k2a (by omega) k1a (by omega);have HO:=Lib.hid ho;clear b1 b2 b3 b4
  go_wp2_with fail
  go_ret
  exact ⟨by rw [HZ.out];rfl,q,rfl⟩
end
end Go.Proofs.YtnhimdkpkmbhlaaGreatDoor
