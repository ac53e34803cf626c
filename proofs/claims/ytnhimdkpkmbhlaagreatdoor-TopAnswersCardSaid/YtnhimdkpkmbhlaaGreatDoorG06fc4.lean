import Derived.Maps.AppendAt
import Derived.Deep.AppendLies
import Derived.RegionTactic
import Derived.OwnWalk
import Derived.Test.YtnhimdkpkmbhlaaGreatDoorGd4176
set_option maxRecDepth 100000
set_option maxHeartbeats 8000000
set_option linter.unusedSimpArgs false
set_option linter.unusedVariables false
namespace Go.Proofs.YtnhimdkpkmbhlaaGreatDoor
open Go.RowKit
theorem Ca:(Tryz.prog.info? 5).map (λi=>(i.zero,i.size,i.bytes))=some (some (.int .u8 0),1,1):=by kernel_rfl
def nP:List UInt8->Int×Int
 | a::b::c::d::_=>if 127<a.toNat then (0,2) else (16777216*(a.toNat:Int)+65536*(b.toNat:Int)+256*(c.toNat:Int)+(d.toNat:Int),0)
 | _=>(0,4)
theorem Fq {l:List UInt8} (h:l.length<4):nP l=(0,4):=by
 match l,h with
 | [],_=>rfl
 | [_],_=>rfl
 | [_,_],_=>rfl
 | [_,_,_],_=>rfl
theorem afz {l:List UInt8} (h: ¬ l.length<4): ∃ a b c d r,l=a::b::c::d::r:=by
 match l,h with
 | a::b::c::d::r,_=>exact ⟨a,b,c,d,r,rfl⟩
 | [],h=>simp at h
 | [_],h=>simp at h
 | [_,_],h=>simp at h
 | [_,_,_],h=>simp at h
theorem Sz (a:UInt8):0<=(a.toNat:Int)/\(a.toNat:Int)<=255:=by
 have:=a.toNat_lt;omega
theorem Ut (A:Option Addr) (n c:Nat) (l:List UInt8) (w:World) {B:Nat} (h:Rd w B 1 A n (byteCells l)) (hn:n<=c):
  Calls Tryz.prog 155 #[.slice A n c] w λe w'=>e= .returned (.tuple #[.int .i64 (nP l).1,.int .i64 (nP l).2])/\w=w':=by
 have hl:=h.mP;by_cases h4:l.length<4
 ·rw [Fq h4];have hn4:n<4:=by omega
  clear hl h4
  go_enter Tryz.func155,Tryz.ntmps155
  go_wp2
  go_ret2
  exact ⟨rfl,rfl⟩
 have hn4:4<=n:=by omega
 have hc4:4<=c:=by omega
 obtain ⟨x0,x1,x2,x3,r,rfl⟩:=afz h4;obtain ⟨b,off,rfl,_,hcell⟩:=h.2 (by omega);have c0:=hcell 0 (.int .u8 x0.toNat) rfl;have c1:=hcell 1 (.int .u8 x1.toNat) rfl;have c2:=hcell 2 (.int .u8 x2.toNat) rfl;have c3:=hcell 3 (.int .u8 x3.toNat) rfl;rw [Nat.add_zero] at c0;have b0:=Sz x0;have b1:=Sz x1;have b2:=Sz x2;have b3:=Sz x3;have q0:=avu x0.toNat (by omega) (by omega);have q1:=or8 x0.toNat x1.toNat (by omega) (by omega) (by omega) (by omega);have q2:=or8 (x0.toNat*256+x1.toNat) x2.toNat (by omega) (by omega) (by omega) (by omega);have q3:=or8 ((x0.toNat*256+x1.toNat)*256+x2.toNat) x3.toNat (by omega) (by omega) (by omega) (by omega);have hm:nP (x0::x1::x2::x3::r)=if 127<x0.toNat then (0,2) else (16777216*(x0.toNat:Int)+65536*(x1.toNat:Int)+256*(x2.toNat:Int)+(x3.toNat:Int),0):=rfl
 clear h hl h4 hcell;by_cases hx:127<x0.toNat
 ·rw [hm,if_pos hx];clear hm
  go_enter Tryz.func155,Tryz.ntmps155
  go_wp2
  go_rounds 5
  go_ret2
  exact ⟨rfl,rfl⟩
 rw [hm,if_neg hx];clear hm
 go_enter Tryz.func155,Tryz.ntmps155
 go_wp2
 go_rounds 5
 go_ret2
 exact ⟨afv (by omega),rfl⟩
end Go.Proofs.YtnhimdkpkmbhlaaGreatDoor
