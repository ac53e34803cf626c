import Derived.Deep.RegionWith
import Derived.StillTailTactics
import Derived.Test.YthhnonpehllibaaGreatDoorG188e7
import Derived.Test.YthhnonpehllibaaGreatDoorG99d6d
set_option maxRecDepth 100000
set_option maxHeartbeats 8000000
set_option linter.unusedSimpArgs false
set_option linter.unusedVariables false
namespace Go.Proofs.YthhnonpehllibaaGreatDoor
open ChangeShapes WideShapes RowKit
theorem H9 {w:World} {base:Nat} {e:TypeId} {size n c:Nat} {A:Option Addr} {xs:List Value} (h:w.ownsRow base e size (.slice A n c) n xs):n<=c:=by
 obtain ⟨A2,c2,hv,h2,_⟩:=lW h;simp only [Value.slice.injEq] at hv;obtain ⟨_,_,rfl⟩:=hv;exact h2
theorem FI (w:World) (e:TypeId) (size:Nat):(w.alloc (.cells #[] e)).ownsRow w.heap.size e size (.slice (some ⟨w.heap.size,0,none⟩) 0 0) 0 []:=by
 refine ⟨by simp,.inr ⟨w.heap.size,0,#[],rfl,Nat.le_refl _,heap_alloc_new w _,Nat.le_refl _,Nat.zero_le _,by simp,by simp⟩⟩
theorem Pq (A:Option Addr) (n c:Nat) (l:List UInt8) (w:World) (h:Rd w w.heap.size 1 A n (byteCells l)) (hc:n<=reachBytes):
  Calls Tryz.prog 64 #[.slice A n c] w (ji w 5 1 n (byteCells l)):=by
 have hc':n<=140737488351232:=hc;obtain ⟨i0,hi0,hz0,hz1,hz2⟩:=info_parts Di
 cases A with
 | none=>
  have hn:n=0:=by
   rcases Nat.eq_zero_or_pos n with h0 | h0
   ·exact h0
   obtain ⟨b,off,e,_⟩:=h.2 h0
   cases e
  subst hn;have hl:byteCells l=[]:=List.eq_nil_of_length_eq_zero (by have:=h.1;omega);rw [hl];clear hl h
  go_enter Tryz.func64,Tryz.ntmps64
  have he:= @Lib.run_eql_slice_nil Tryz.prog
  go_wp2
  go_ret
  exact ji.of (Below.refl _ _) (jd _ _ _ _)
 | some a=>
  go_enter Tryz.func64,Tryz.ntmps64
  have he:= @Lib.run_eql_slice_nil Tryz.prog
  go_wp2_with (at_builtin;refine jm _ rfl (.tmp 5) (.tmp 6) _ rfl w.heap.size 5 i0 _ 1 1 Tryz.underlying81 hi0 hz0 hz1 hz2 rfl (by omega) (.slice (some ⟨w.heap.size,0,none⟩) 0 0) 0 [] rfl (FI w 5 1) w.heap.size (some a) n c (byteCells l) rfl (h.alloc (Nat.le_refl _) _) (byteCells_one l) (by simp only [maxLen];omega) (by omega) (by simp) ?_;intro v1 w1 hown1 hg1 KW)
  go_ret
  simp only [Nat.zero_add,List.nil_append] at hown1;exact ji.of (((Below.refl _ w).alloc (Nat.le_refl _) _).grown hg1 (by simp) (by simp [Value.ownBlock])) hown1
def cO (l:List UInt8) (s:Int):Bool:=decide (l.length<=100000)&&decide (0<=s)&&decide (s<=l.length)
def Ht (l:List UInt8) (s:Int):List UInt8×Int×Bool:=if cO l s=true then (l,s,true) else ([],0,false)
def DX (w:World) (r:List UInt8×Int×Bool) (e:Ending) (w':World):Prop:=
 ∃ A c,e= .returned (.tuple #[.agg #[.slice A r.1.length c,.int .i64 r.2.1],.bool r.2.2])/\Below w.heap.size w w'/\w'.ownsRow w.heap.size 5 1 (.slice A r.1.length c) r.1.length (byteCells r.1)
theorem DX.no (w:World) {o:Obj} {o':Obj} (W:World) (hW:W=(w.alloc o).alloc o'):Below w.heap.size w W:=by
 subst hW
 go_grown
theorem adM (A:Option Addr) (n c:Nat) (l:List UInt8) (s:Int) (w:World) (h:Rd w w.heap.size 1 A n (byteCells l)) (h1:0<=s) (h2:s<=n) (h3:n<=100000):
  Calls Tryz.prog 47 #[.agg #[.slice A n c,.int .i64 s]] w (DX w (l,s,true)):=by
 have HL:=Lib.hid h.mW;have H:=Lib.hid h;clear h
 go_enter Tryz.func47,Tryz.ntmps47
 go_wp2
 go_region_with (go_at_call 64;refine (Pq A n c l _ (by exact H.out.on (by go_grown)) (by unfold reachBytes;omega)).mono ?_;rintro e w1 ⟨A1,c1,rfl,hb1,hown1⟩;obtain ⟨hc1,hf1⟩:=BP hb1)
 all_goals (have hz1:=hb1.size;simp at hz1)
 all_goals go_wp2
 all_goals refine bodyPost_ret (v:= .tuple #[.agg #[.slice A1 n c1,.int .i64 s],.bool true]) (by simp [results,Tryz.results47,go_sem,hc1]) rfl ?_
 all_goals (have hB:Below w.heap.size w w1:=Below.trans (by go_grown) (hb1.mono (by simp;omega)))
 all_goals (obtain rfl:=HL.out)
 all_goals exact ⟨A1,c1,rfl,by go_grown,(ownsRow_setCell_below (ownsRow_setCell_below (base:=w.heap.size+1+1) (hown1.lower (by simp)) (by simp) _) (by simp) _).lower (by omega)⟩
theorem ahe (A:Option Addr) (n c:Nat) (s:Int) (w:World) (hno:s<0\/(n:Int)<s\/100000<n):
  Calls Tryz.prog 47 #[.agg #[.slice A n c,.int .i64 s]] w (DX w ([],0,false)):=by
 by_cases h1:s<0
 ·clear hno
  go_enter Tryz.func47,Tryz.ntmps47
  go_wp2
  refine bodyPost_ret (v:= .tuple #[.agg #[.slice none 0 0,.int .i64 0],.bool false]) (by simp [results,Tryz.results47,go_sem]) rfl ?_;exact ⟨none,0,rfl,by go_grown,jd _ _ _ _⟩
 by_cases h2:(n:Int)<s
 ·have h1':0<=s:=by omega
  clear hno h1
  go_enter Tryz.func47,Tryz.ntmps47
  go_wp2
  refine bodyPost_ret (v:= .tuple #[.agg #[.slice none 0 0,.int .i64 0],.bool false]) (by simp [results,Tryz.results47,go_sem]) rfl ?_;exact ⟨none,0,rfl,by go_grown,jd _ _ _ _⟩
 have h1':0<=s:=by omega
 have h2':s<=n:=by omega
 have h3:100000<n:=by omega
 clear hno h1 h2
 go_enter Tryz.func47,Tryz.ntmps47
 go_wp2
 refine bodyPost_ret (v:= .tuple #[.agg #[.slice none 0 0,.int .i64 0],.bool false]) (by simp [results,Tryz.results47,go_sem]) rfl ?_;exact ⟨none,0,rfl,by go_grown,jd _ _ _ _⟩
theorem AA {l:List UInt8} {s:Int} (h1:0<=s) (h2:s<=l.length) (h3:l.length<=100000):Ht l s=(l,s,true):=if_pos (by simp [cO,h1,h2,h3])
theorem adN {l:List UInt8} {s:Int} (h:s<0\/(l.length:Int)<s\/100000<l.length):Ht l s=([],0,false):=if_neg (by simp [cO];omega)
theorem kX (A:Option Addr) (n c:Nat) (l:List UInt8) (s:Int) (w:World) (h:Rd w w.heap.size 1 A n (byteCells l)):
  Calls Tryz.prog 47 #[.agg #[.slice A n c,.int .i64 s]] w (DX w (Ht l s)):=by
 have hl:=h.mW;by_cases hok:0<=s/\s<=n/\n<=100000
 ·rw [AA hok.1 (by omega) (by omega)];exact adM A n c l s w h hok.1 hok.2.1 hok.2.2
 rw [adN (by omega)];exact ahe A n c s w (by omega)
def rD (w:World) (r:List UInt8×Int×Int) (e:Ending) (w':World):Prop:=
 ∃ A c,e= .returned (.tuple #[.agg #[.slice A r.1.length c,.int .i64 r.2.1],.int .i64 r.2.2])/\Below w.heap.size w w'/\Rd w' w'.heap.size 1 A r.1.length (byteCells r.1)/\ ∀ a,A=some a->w.heap.size<=a.block/\a.block<w'.heap.size
theorem MV {w:World} {base:Nat} {e:TypeId} {size:Nat} {A:Option Addr} {n c:Nat} {xs:List Value} (h:w.ownsRow base e size (.slice A n c) n xs): ∀ a,A=some a->base<=a.block/\a.block<w.heap.size:=λa ha=>⟨h.ze a.block (by rw [ha];rfl),by
 obtain ⟨_,⟨h2,_⟩ | ⟨g,cap,cur,hv,_,hh,_⟩⟩:=h
 ·cases h2;cases ha
 cases hv;cases ha;exact (Array.getElem?_eq_some_iff.1 hh).1⟩
def UZ (l:List UInt8) (s:Int):List UInt8×Int×Int:=if cO l s=true then (l,l.length,0) else ([],0,6)
theorem zJ (l:List UInt8) (s:Int):(Ht l s=(l,s,true)/\cO l s=true)\/(Ht l s=([],0,false)/\cO l s=false):=by
 unfold Ht
 cases h:cO l s<;>simp
theorem oh {l:List UInt8} {s:Int} (h:cO l s=true):l.length<=100000/\0<=s/\s<=l.length:=by
 simp [cO] at h;omega
theorem om (A:Option Addr) (n c:Nat) (l:List UInt8) (s:Int) (w:World) (h:Rd w w.heap.size 1 A n (byteCells l)):
  Calls Tryz.prog 41 #[.agg #[.slice A n c,.int .i64 s]] w (rD w (UZ l s)):=by
 have H:=Lib.hid h;clear h;have HO:=Lib.hid (kX A n c l s)
 rcases zJ l s with ⟨ho,hm⟩ | ⟨ho,hm⟩
 ·rw [show UZ l s=(l,(l.length:Int),0) from if_pos hm];rw [ho] at HO;obtain ⟨hm1,_,_⟩:=oh hm;clear ho hm
  go_enter Tryz.func41,Tryz.ntmps41
  go_wp2_with fail
  refine (HO.out _ (by exact H.out.on (by go_grown))).mono ?_;rintro e w1 ⟨A1,c1,rfl,hb1,hown1⟩;have hz0:w.heap.size<w1.heap.size:=by have:=hb1.size;simp at this;omega
  have hz1:w.heap.size+1<w1.heap.size:=by have:=hb1.size;simp at this;omega
  obtain ⟨hc1,hf1⟩:=BP hb1;have HB:Hid (Below w.heap.size w w1):=Lib.hid (Below.trans (by go_grown) (hb1.mono (by simp;omega)));have HR:=Lib.hid (World.ownsRow.lower (base':=w.heap.size+1+1) hown1 (by simp));clear hb1 hown1
  go_wp2
  refine bodyPost_ret (v:= .tuple #[.agg #[.slice A1 l.length c1,.int .i64 l.length],.int .i64 0]) (by simp [results,Tryz.results41,go_sem,hc1,hz1]) rfl ?_;have hB:=HB.out;have hz:=hB.size;exact ⟨A1,c1,rfl,by go_grown,Rd.tq ((ownsRow_setCell_below (ownsRow_setCell_below HR.out (by simp) _) (by simp) _).alloc _),λa ha=>by have:=MV HR.out a ha;refine ⟨by omega,?_⟩;simp;omega⟩
 rw [show UZ l s=([],0,6) from if_neg (by simp [hm])];rw [ho] at HO;clear ho hm
 go_enter Tryz.func41,Tryz.ntmps41
 go_wp2_with fail
 refine (HO.out _ (by exact H.out.on (by go_grown))).mono ?_;rintro e w1 ⟨A1,c1,rfl,hb1,hown1⟩;have hz0:w.heap.size<w1.heap.size:=by have:=hb1.size;simp at this;omega
 have hz1:w.heap.size+1<w1.heap.size:=by have:=hb1.size;simp at this;omega
 obtain ⟨hc1,hf1⟩:=BP hb1;have HB:Hid (Below w.heap.size w w1):=Lib.hid (Below.trans (by go_grown) (hb1.mono (by simp;omega)));clear hb1 hown1
 go_wp2
 refine bodyPost_ret (v:= .tuple #[.agg #[.slice none 0 0,.int .i64 0],.int .i64 6]) (by simp [results,Tryz.results41,go_sem,hc1,hz1]) rfl ?_;have hB:=HB.out;have hz:=hB.size;exact ⟨none,0,rfl,by go_grown,Rd.none_,λa ha=>by cases ha⟩
def mo (l:List UInt8) (s keep:Int):List UInt8×Int×Int:=
 if cO l s=true then if keep<0 then ([],0,2) else if (l.length:Int)-s<keep then (l,l.length,0) else (l.take (s+keep).toNat,s+keep,0) else ([],0,6)
theorem Rd.take {w:World} {B size n:Nat} {A:Option Addr} {xs:List Value} (h:Rd w B size A n xs) {m:Nat} (hm:m<=n):Rd w B size A m (xs.take (m*size)):=by
 refine ⟨?_,λh0=>?_⟩
 ·rw [List.length_take,h.1];exact Nat.min_eq_left (Nat.mul_le_mul_right _ hm)
 obtain ⟨b,off,e,hb,hc⟩:=h.2 (by omega);refine ⟨b,off,e,hb,λj u hu=>hc j u ?_⟩;rw [List.getElem?_take] at hu
 split at hu
 ·exact hu
 cases hu
theorem KX (l:List UInt8) (m:Nat):(byteCells l).take m=byteCells (l.take m):=by simp [byteCells,List.map_take]
theorem YZ (A:Option Addr) (n c:Nat) (l:List UInt8) (s keep:Int) (w:World) (h:Rd w w.heap.size 1 A n (byteCells l)) (hm:cO l s=true) (h0:0<=keep) (hk:(l.length:Int)-s<keep):
  Calls Tryz.prog 31 #[.agg #[.slice A n c,.int .i64 s],.int .i64 keep] w (rD w (l,l.length,0)):=by
 have H:=Lib.hid h;clear h;have HO:=Lib.hid (kX A n c l s);obtain ⟨hm1,hs0,hs1⟩:=oh hm;rw [AA hs0 hs1 hm1] at HO;obtain ⟨s',rfl⟩:=Int.eq_ofNat_of_zero_le hs0;clear hm
 go_enter Tryz.func31,Tryz.ntmps31
 go_wp2_with fail
 refine (HO.out _ (by exact H.out.on (by go_grown))).mono ?_;rintro e w1 ⟨A1,c1,rfl,hb1,hown1⟩;have hz0:w.heap.size<w1.heap.size:=by have:=hb1.size;simp at this;omega
 have hz1:w.heap.size+1<w1.heap.size:=by have:=hb1.size;simp at this;omega
 obtain ⟨hc1,hf1⟩:=BP hb1;have HB:Hid (Below w.heap.size w w1):=Lib.hid (Below.trans (by go_grown) (hb1.mono (by simp;omega)));have hcap:=H9 hown1;have HR:=Lib.hid (World.ownsRow.lower (base':=w.heap.size+1+1) hown1 (by simp));clear hb1 hown1;have e1:(s':Int)+((l.length:Int)-s')=l.length:=by omega
 go_wp2
 refine bodyPost_ret (v:= .tuple #[.agg #[.slice A1 l.length l.length,.int .i64 l.length],.int .i64 0]) (by simp [results,Tryz.results31,go_sem,hc1,hz1]) rfl ?_;have hB:=HB.out;have hz:=hB.size;exact ⟨A1,l.length,rfl,by go_grown,Rd.J6 ((ownsRow_setCell_below (ownsRow_setCell_below HR.out (by simp) _) (by simp) _).alloc _),λa ha=>by have:=MV HR.out a ha;refine ⟨by omega,?_⟩;simp;omega⟩
theorem Wm (A:Option Addr) (n c:Nat) (l:List UInt8) (s keep:Int) (w:World) (h:Rd w w.heap.size 1 A n (byteCells l)) (hm:cO l s=true) (h0:0<=keep) (hk: ¬ (l.length:Int)-s<keep):
  Calls Tryz.prog 31 #[.agg #[.slice A n c,.int .i64 s],.int .i64 keep] w (rD w (l.take (s+keep).toNat,s+keep,0)):=by
 have H:=Lib.hid h;clear h;have HO:=Lib.hid (kX A n c l s);obtain ⟨hm1,hs0,hs1⟩:=oh hm;rw [AA hs0 hs1 hm1] at HO;obtain ⟨s',rfl⟩:=Int.eq_ofNat_of_zero_le hs0;obtain ⟨k',rfl⟩:=Int.eq_ofNat_of_zero_le h0;have hsk:s'+k'<=l.length:=by omega
 have hk':(s':Int)+k'<=l.length:=by omega
 clear hm;rw [show ((s':Int)+(k':Int)).toNat=s'+k' by omega]
 go_enter Tryz.func31,Tryz.ntmps31
 go_wp2_with fail
 refine (HO.out _ (by exact H.out.on (by go_grown))).mono ?_;rintro e w1 ⟨A1,c1,rfl,hb1,hown1⟩;have hz0:w.heap.size<w1.heap.size:=by have:=hb1.size;simp at this;omega
 have hz1:w.heap.size+1<w1.heap.size:=by have:=hb1.size;simp at this;omega
 obtain ⟨hc1,hf1⟩:=BP hb1;have HB:Hid (Below w.heap.size w w1):=Lib.hid (Below.trans (by go_grown) (hb1.mono (by simp;omega)));have hcap:=H9 hown1;have HR:=Lib.hid (World.ownsRow.lower (base':=w.heap.size+1+1) hown1 (by simp));clear hb1 hown1
 go_wp2
 refine bodyPost_ret (v:= .tuple #[.agg #[.slice A1 (s'+k') (s'+k'),.int .i64 (s'+k')],.int .i64 0]) (by simp [results,Tryz.results31,go_sem,hc1,hz1]) rfl ?_;have hB:=HB.out;have hz:=hB.size;have hl:(l.take (s'+k')).length=s'+k':=by rw [List.length_take];omega
 have hr:=(Rd.J6 ((ownsRow_setCell_below (ownsRow_setCell_below HR.out (a:=⟨w.heap.size+1,0,none⟩) (by simp) (.slice A1 (s'+k') (s'+k'))) (a:=⟨w.heap.size+1,1,none⟩) (by simp) (.int .i64 (s'+k'))).alloc (.cells #[.slice A1 l.length c1,.int .i64 s'] 83))).take hsk;rw [Nat.mul_one,KX] at hr;exact ⟨A1,s'+k',by simp only [hl],by go_grown,by simpa only [hl] using hr,λa ha=>by have:=MV HR.out a ha;refine ⟨by omega,?_⟩;simp;omega⟩
theorem Y0 (A:Option Addr) (n c:Nat) (l:List UInt8) (s keep:Int) (w:World) (h:Rd w w.heap.size 1 A n (byteCells l)) (hm:cO l s=true) (h0:keep<0):
  Calls Tryz.prog 31 #[.agg #[.slice A n c,.int .i64 s],.int .i64 keep] w (rD w ([],0,2)):=by
 have H:=Lib.hid h;clear h;have HO:=Lib.hid (kX A n c l s);obtain ⟨hm1,hs0,hs1⟩:=oh hm;rw [AA hs0 hs1 hm1] at HO;clear hm
 go_enter Tryz.func31,Tryz.ntmps31
 go_wp2_with fail
 refine (HO.out _ (by exact H.out.on (by go_grown))).mono ?_;rintro e w1 ⟨A1,c1,rfl,hb1,hown1⟩;have hz0:w.heap.size<w1.heap.size:=by have:=hb1.size;simp at this;omega
 have hz1:w.heap.size+1<w1.heap.size:=by have:=hb1.size;simp at this;omega
 obtain ⟨hc1,hf1⟩:=BP hb1;have HB:Hid (Below w.heap.size w w1):=Lib.hid (Below.trans (by go_grown) (hb1.mono (by simp;omega)));have hcap:=H9 hown1;have HR:=Lib.hid (World.ownsRow.lower (base':=w.heap.size+1+1) hown1 (by simp));clear hb1 hown1
 go_wp2
 refine bodyPost_ret (v:= .tuple #[.agg #[.slice none 0 0,.int .i64 0],.int .i64 2]) (by simp [results,Tryz.results31,go_sem,hc1,hz1]) rfl ?_;have hB:=HB.out;have hz:=hB.size;exact ⟨none,0,rfl,by go_grown,Rd.none_,λa ha=>by cases ha⟩
theorem adO (A:Option Addr) (n c:Nat) (l:List UInt8) (s keep:Int) (w:World) (h:Rd w w.heap.size 1 A n (byteCells l)) (hm:cO l s=false):
  Calls Tryz.prog 31 #[.agg #[.slice A n c,.int .i64 s],.int .i64 keep] w (rD w ([],0,6)):=by
 have H:=Lib.hid h;clear h;have HO:=Lib.hid (kX A n c l s)
 rcases zJ l s with ⟨_,hm'⟩ | ⟨ho,_⟩
 ·rw [hm] at hm';cases hm'
 rw [ho] at HO;clear ho hm
 go_enter Tryz.func31,Tryz.ntmps31
 go_wp2_with fail
 refine (HO.out _ (by exact H.out.on (by go_grown))).mono ?_;rintro e w1 ⟨A1,c1,rfl,hb1,hown1⟩;have hz0:w.heap.size<w1.heap.size:=by have:=hb1.size;simp at this;omega
 have hz1:w.heap.size+1<w1.heap.size:=by have:=hb1.size;simp at this;omega
 obtain ⟨hc1,hf1⟩:=BP hb1;have HB:Hid (Below w.heap.size w w1):=Lib.hid (Below.trans (by go_grown) (hb1.mono (by simp;omega)));have hcap:=H9 hown1;have HR:=Lib.hid (World.ownsRow.lower (base':=w.heap.size+1+1) hown1 (by simp));clear hb1 hown1
 go_wp2
 refine bodyPost_ret (v:= .tuple #[.agg #[.slice none 0 0,.int .i64 0],.int .i64 6]) (by simp [results,Tryz.results31,go_sem,hc1,hz1]) rfl ?_;have hB:=HB.out;have hz:=hB.size;exact ⟨none,0,rfl,by go_grown,Rd.none_,λa ha=>by cases ha⟩
theorem SK (A:Option Addr) (n c:Nat) (l:List UInt8) (s keep:Int) (w:World) (h:Rd w w.heap.size 1 A n (byteCells l)):
  Calls Tryz.prog 31 #[.agg #[.slice A n c,.int .i64 s],.int .i64 keep] w (rD w (mo l s keep)):=by
 unfold mo
 cases hm:cO l s
 ·rw [if_neg (by simp)];exact adO A n c l s keep w h hm
 rw [if_pos rfl];by_cases h0:keep<0
 ·rw [if_pos h0];exact Y0 A n c l s keep w h hm h0
 rw [if_neg h0];by_cases hk:(l.length:Int)-s<keep
 ·rw [if_pos hk];exact YZ A n c l s keep w h hm (by omega) hk
 rw [if_neg hk];exact Wm A n c l s keep w h hm (by omega) hk
end Go.Proofs.YthhnonpehllibaaGreatDoor
