import Derived.Deep.RegionWith
import Derived.StillTailTactics
import Derived.Deep.RegionHeld3
import Derived.Test.YtnhimdkpkmbhlaaGreatDoorG06fc4
import Derived.Test.YtnhimdkpkmbhlaaGreatDoorGaee60
set_option maxRecDepth 100000
set_option maxHeartbeats 8000000
set_option linter.unusedSimpArgs false
set_option linter.unusedVariables false
namespace Go.Proofs.YtnhimdkpkmbhlaaGreatDoor
open ChangeShapes WideShapes RowKit
def headed (p:List UInt8):List UInt8:=UInt8.ofNat (p.length / 256)::UInt8.ofNat (p.length % 256)::p
def jB (p:List UInt8):List UInt8:=headed p++yg (yC (headed p))
theorem tJ (p:List UInt8):(jB p).length=p.length+6:=by simp [jB,headed,yg]
theorem UC (p:List UInt8):(headed p).length=p.length+2:=by simp [headed]
theorem UD {n:Int} (h0:0<=n) (h1:n<=4294967295):
  byteCells (yg n)=[.int .u8 (n / 16777216),.int .u8 (n / 65536 % 256),.int .u8 (n / 256 % 256),.int .u8 (n % 256)]:=by
 have key: ∀ m:Int,0<=m->m<=255->((UInt8.ofNat m.toNat).toNat:Int)=m:=by
  intro m a b;simp;omega
 simp only [byteCells,yg,List.map_cons,List.map_nil];rw [key _ (by omega) (by omega),key _ (by omega) (by omega),key _ (by omega) (by omega),key _ (by omega) (by omega)]
theorem Ji (l:List UInt8):0<=yC l/\yC l<=4293984240:=by
 unfold yC;omega
theorem NI (p:List UInt8) (h:p.length<=65535):byteCells (headed p)=[.int .u8 ((p.length:Int) / 256),.int .u8 ((p.length:Int) % 256)]++byteCells p:=by
 simp only [headed,byteCells,List.map_cons,List.cons_append,List.nil_append,List.cons.injEq,Value.int.injEq,true_and,and_true]
 constructor
 ·simp;omega
 simp
theorem two_bytes (w:World) (a b:Int):(w.alloc (.cells #[.int .u8 a,.int .u8 b] 5)).ownsRow w.heap.size 5 1 (.slice (some ⟨w.heap.size,0,none⟩) 2 2) 2 [.int .u8 a,.int .u8 b]:=
 VG w _ 5 2 1 rfl (by simp [maxLen])
theorem UE (w:World) (s:Int) (h0:0<=s) (h1:s<=4294967295):Rd (w.alloc (.cells #[.int .u8 (s / 16777216),.int .u8 (s / 65536 % 256),.int .u8 (s / 256 % 256),.int .u8 (s % 256)] 5)) (w.heap.size+1) 1 (some ⟨w.heap.size,0,none⟩) 4 (byteCells (yg s)):=by
 rw [UD h0 h1];exact Rd.ad5 w 5 _ 4 1 rfl
theorem QT (A:Option Addr) (n c:Nat) (p:List UInt8) (w:World) (h:Rd w w.heap.size 1 A n (byteCells p)) (hn:n<=1000):
  Calls Tryz.prog 125 #[.slice A n c] w (jd w 5 1 (jB p).length (byteCells (jB p))):=by
 obtain ⟨j0,hj0,Pf,Pg,Ph⟩:=info_parts Ca;have hl:=h.mP;subst hl;have H:=Lib.hid h;have HC:=Lib.hid (NI p (by omega));have HS:=Lib.hid (λA n c w (h:Rd w w.heap.size 1 A n (byteCells (headed p)))=>K6 A n c (headed p) w h (by have:=h.mP;have:=UC p;omega));have HF:Hid ((jB p).length=p.length+6/\byteCells (jB p)=byteCells (headed p)++byteCells (yg (yC (headed p)))):=Lib.hid ⟨tJ p,by rw [jB,byteCells_append]⟩;obtain ⟨s0,s1⟩:=Ji (headed p);clear h;generalize jB p=z at HF⊢;generalize yC (headed p)=s at HS HF s0 s1;have H4:=Lib.hid (λw=>UE w s s0 (by omega));have H2:=Lib.hid (two_bytes w ((p.length:Int) / 256) ((p.length:Int) % 256))
 go_enter Tryz.func125,Tryz.ntmps125
 go_wp2_with (at_builtin;refine jh _ rfl (.tmp 12) (.tmp 13) _ rfl w.heap.size 5 j0 _ 1 1 Tryz.underlying114 hj0 Pf Pg Ph rfl (by omega) (.slice (some ⟨w.heap.size,0,none⟩) 2 2) 2 _ rfl H2.out w.heap.size A p.length c (byteCells p) rfl (by exact H.out.alloc (Nat.le_refl _) _) (byteCells_one _) (by simp only [maxLen];omega) (by omega) (by simp) ?_;intro v1 w3 hown1 hg1 JM;obtain ⟨A4,c4,rfl,_⟩:=lX hown1;rw [<-HC.out] at hown1)
 have HB3:Hid (Below w.heap.size w w3):=Lib.hid (Below.grown (by go_grown) hg1 (by simp) (λk hk=>by simp [Value.ownBlock] at hk;omega));have HO3:=Lib.hid hown1;have HR3:=Lib.hid (Rd.rO hown1);have hz3:w.heap.size<w3.heap.size:=by have:=hg1.size;simp at this;omega
 clear hown1 hg1 JM
 go_wp2_with fail
 refine (HS.out _ _ _ _ (by exact HR3.out)).mono ?_;rintro e w4 ⟨rfl,q,rfl⟩;have HO4:Hid ((w3.drewN q).ownsRow w.heap.size 5 1 (.slice A4 (2+p.length) c4) (2+p.length) (byteCells (headed p))):=HO3;have HB4:=Lib.hid (He HB3.out q);have hz4:w.heap.size< (w3.drewN q).heap.size:=hz3;clear HO3 HR3;generalize w3.drewN q=w4 at HO4 HB4 hz4⊢
 go_wp2_with (at_builtin;refine jh _ rfl (.tmp 17) (.tmp 29) _ rfl w.heap.size 5 j0 _ 1 1 Tryz.underlying114 hj0 Pf Pg Ph rfl (by omega) _ (2+p.length) (byteCells (headed p)) rfl (HO4.out.alloc _) (w4.heap.size+1) (some ⟨w4.heap.size,0,none⟩) 4 4 (byteCells (yg s)) rfl (H4.out w4) (byteCells_one _) (by simp only [maxLen];omega) (by omega) (by simp;omega) ?_;intro v1 w5 hown1 hg1 JM;obtain ⟨A5,c5,rfl,_⟩:=lX hown1;rw [<-HF.out.2,show 2+p.length+4=z.length by rw [HF.out.1];omega] at hown1)
 have HB5:=Lib.hid (((HB4.out.alloc (by omega) _).grown hg1 (by simp;omega) (λk hk=>HO4.out.yj k hk)))
 go_ret
 rw [show 2+p.length+4=z.length by rw [HF.out.1];omega];exact ⟨A5,c5,rfl,HB5.out,hown1⟩
end Go.Proofs.YtnhimdkpkmbhlaaGreatDoor
