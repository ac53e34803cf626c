import Derived.Deep.RegionWith
import Derived.StillTailTactics
import Derived.Test.YtnhimdkpkmbhlaaGreatDoorG06fc4
import Derived.Test.YtnhimdkpkmbhlaaGreatDoorG468ad
set_option maxRecDepth 100000
set_option maxHeartbeats 8000000
set_option linter.unusedSimpArgs false
set_option linter.unusedVariables false
namespace Go.Proofs.YtnhimdkpkmbhlaaGreatDoor
open ChangeShapes WideShapes RowKit
theorem Gf {w:World} {base:Nat} {e:TypeId} {size n c:Nat} {A:Option Addr} {xs:List Value} (h:w.ownsRow base e size (.slice A n c) n xs):n<=c:=by
 obtain ⟨A2,c2,hv,h2,_⟩:=lX h;simp only [Value.slice.injEq] at hv;obtain ⟨_,_,rfl⟩:=hv;exact h2
theorem Ep (w:World) (e:TypeId) (size:Nat):(w.alloc (.cells #[] e)).ownsRow w.heap.size e size (.slice (some ⟨w.heap.size,0,none⟩) 0 0) 0 []:=by
 refine ⟨by simp,.inr ⟨w.heap.size,0,#[],rfl,Nat.le_refl _,heap_alloc_new w _,Nat.le_refl _,Nat.zero_le _,by simp,by simp⟩⟩
theorem NA (A:Option Addr) (n c:Nat) (l:List UInt8) (w:World) (h:Rd w w.heap.size 1 A n (byteCells l)) (hc:n<=reachBytes):
  Calls Tryz.prog 106 #[.slice A n c] w (jd w 5 1 n (byteCells l)):=by
 have hc':n<=140737488351232:=hc;obtain ⟨i0,hi0,hz0,hz1,hz2⟩:=info_parts Ca
 cases A with
 | none=>
  have hn:n=0:=by
   rcases Nat.eq_zero_or_pos n with h0 | h0
   ·exact h0
   obtain ⟨b,off,e,_⟩:=h.2 h0
   cases e
  subst hn;have hl:byteCells l=[]:=List.eq_nil_of_length_eq_zero (by have:=h.1;omega);rw [hl];clear hl h
  go_enter Tryz.func106,Tryz.ntmps106
  have he:= @Lib.run_eql_slice_nil Tryz.prog
  go_wp2
  go_ret
  exact jd.of (Below.refl _ _) (iN _ _ _ _)
 | some a=>
  go_enter Tryz.func106,Tryz.ntmps106
  have he:= @Lib.run_eql_slice_nil Tryz.prog
  go_wp2_with (at_builtin;refine jh _ rfl (.tmp 5) (.tmp 6) _ rfl w.heap.size 5 i0 _ 1 1 Tryz.underlying114 hi0 hz0 hz1 hz2 rfl (by omega) (.slice (some ⟨w.heap.size,0,none⟩) 0 0) 0 [] rfl (Ep w 5 1) w.heap.size (some a) n c (byteCells l) rfl (h.alloc (Nat.le_refl _) _) (byteCells_one l) (by simp only [maxLen];omega) (by omega) (by simp) ?_;intro v1 w1 hown1 hg1 JM)
  go_ret
  simp only [Nat.zero_add,List.nil_append] at hown1;exact jd.of (((Below.refl _ w).alloc (Nat.le_refl _) _).grown hg1 (by simp) (by simp [Value.ownBlock])) hown1
def dz (l:List UInt8) (s:Int):Bool:=decide (l.length<=100000)&&decide (0<=s)&&decide (s<=l.length)
def F4 (l:List UInt8) (s:Int):List UInt8×Int×Bool:=if dz l s=true then (l,s,true) else ([],0,false)
def CP (w:World) (r:List UInt8×Int×Bool) (e:Ending) (w':World):Prop:=
 ∃ A c,e= .returned (.tuple #[.agg #[.slice A r.1.length c,.int .i64 r.2.1],.bool r.2.2])/\Below w.heap.size w w'/\w'.ownsRow w.heap.size 5 1 (.slice A r.1.length c) r.1.length (byteCells r.1)
theorem CP.no (w:World) {o:Obj} {o':Obj} (W:World) (hW:W=(w.alloc o).alloc o'):Below w.heap.size w W:=by
 subst hW
 go_grown
theorem ab9 (A:Option Addr) (n c:Nat) (l:List UInt8) (s:Int) (w:World) (h:Rd w w.heap.size 1 A n (byteCells l)) (h1:0<=s) (h2:s<=n) (h3:n<=100000):
  Calls Tryz.prog 78 #[.agg #[.slice A n c,.int .i64 s]] w (CP w (l,s,true)):=by
 have HL:=Lib.hid h.mP;have H:=Lib.hid h;clear h
 go_enter Tryz.func78,Tryz.ntmps78
 go_wp2
 go_region_with (go_at_call 106;refine (NA A n c l _ (by exact H.out.on (by go_grown)) (by unfold reachBytes;omega)).mono ?_;rintro e w1 ⟨A1,c1,rfl,hb1,hown1⟩;obtain ⟨hc1,hf1⟩:=AY hb1)
 all_goals (have hz1:=hb1.size;simp at hz1)
 all_goals go_wp2
 all_goals refine bodyPost_ret (v:= .tuple #[.agg #[.slice A1 n c1,.int .i64 s],.bool true]) (by simp [results,Tryz.results78,go_sem,hc1]) rfl ?_
 all_goals (have hB:Below w.heap.size w w1:=Below.trans (by go_grown) (hb1.mono (by simp;omega)))
 all_goals (obtain rfl:=HL.out)
 all_goals exact ⟨A1,c1,rfl,by go_grown,(ownsRow_setCell_below (ownsRow_setCell_below (base:=w.heap.size+1+1) (hown1.lower (by simp)) (by simp) _) (by simp) _).lower (by omega)⟩
theorem afA (A:Option Addr) (n c:Nat) (s:Int) (w:World) (hno:s<0\/(n:Int)<s\/100000<n):
  Calls Tryz.prog 78 #[.agg #[.slice A n c,.int .i64 s]] w (CP w ([],0,false)):=by
 by_cases h1:s<0
 ·clear hno
  go_enter Tryz.func78,Tryz.ntmps78
  go_wp2
  refine bodyPost_ret (v:= .tuple #[.agg #[.slice none 0 0,.int .i64 0],.bool false]) (by simp [results,Tryz.results78,go_sem]) rfl ?_;exact ⟨none,0,rfl,by go_grown,iN _ _ _ _⟩
 by_cases h2:(n:Int)<s
 ·have h1':0<=s:=by omega
  clear hno h1
  go_enter Tryz.func78,Tryz.ntmps78
  go_wp2
  refine bodyPost_ret (v:= .tuple #[.agg #[.slice none 0 0,.int .i64 0],.bool false]) (by simp [results,Tryz.results78,go_sem]) rfl ?_;exact ⟨none,0,rfl,by go_grown,iN _ _ _ _⟩
 have h1':0<=s:=by omega
 have h2':s<=n:=by omega
 have h3:100000<n:=by omega
 clear hno h1 h2
 go_enter Tryz.func78,Tryz.ntmps78
 go_wp2
 refine bodyPost_ret (v:= .tuple #[.agg #[.slice none 0 0,.int .i64 0],.bool false]) (by simp [results,Tryz.results78,go_sem]) rfl ?_;exact ⟨none,0,rfl,by go_grown,iN _ _ _ _⟩
theorem zM {l:List UInt8} {s:Int} (h1:0<=s) (h2:s<=l.length) (h3:l.length<=100000):F4 l s=(l,s,true):=if_pos (by simp [dz,h1,h2,h3])
theorem acd {l:List UInt8} {s:Int} (h:s<0\/(l.length:Int)<s\/100000<l.length):F4 l s=([],0,false):=if_neg (by simp [dz];omega)
theorem kZ (A:Option Addr) (n c:Nat) (l:List UInt8) (s:Int) (w:World) (h:Rd w w.heap.size 1 A n (byteCells l)):
  Calls Tryz.prog 78 #[.agg #[.slice A n c,.int .i64 s]] w (CP w (F4 l s)):=by
 have hl:=h.mP;by_cases hok:0<=s/\s<=n/\n<=100000
 ·rw [zM hok.1 (by omega) (by omega)];exact ab9 A n c l s w h hok.1 hok.2.1 hok.2.2
 rw [acd (by omega)];exact afA A n c s w (by omega)
def qF (w:World) (r:List UInt8×Int×Int) (e:Ending) (w':World):Prop:=
 ∃ A c,e= .returned (.tuple #[.agg #[.slice A r.1.length c,.int .i64 r.2.1],.int .i64 r.2.2])/\Below w.heap.size w w'/\Rd w' w'.heap.size 1 A r.1.length (byteCells r.1)/\ ∀ a,A=some a->w.heap.size<=a.block/\a.block<w'.heap.size
theorem Ld {w:World} {base:Nat} {e:TypeId} {size:Nat} {A:Option Addr} {n c:Nat} {xs:List Value} (h:w.ownsRow base e size (.slice A n c) n xs): ∀ a,A=some a->base<=a.block/\a.block<w.heap.size:=λa ha=>⟨h.yj a.block (by rw [ha];rfl),by
 obtain ⟨_,⟨h2,_⟩ | ⟨g,cap,cur,hv,_,hh,_⟩⟩:=h
 ·cases h2;cases ha
 cases hv;cases ha;exact (Array.getElem?_eq_some_iff.1 hh).1⟩
def SA (l:List UInt8) (s:Int):List UInt8×Int×Int:=if dz l s=true then (l,l.length,0) else ([],0,6)
theorem yO (l:List UInt8) (s:Int):(F4 l s=(l,s,true)/\dz l s=true)\/(F4 l s=([],0,false)/\dz l s=false):=by
 unfold F4
 cases h:dz l s<;>simp
theorem nU {l:List UInt8} {s:Int} (h:dz l s=true):l.length<=100000/\0<=s/\s<=l.length:=by
 simp [dz] at h;omega
theorem nV (A:Option Addr) (n c:Nat) (l:List UInt8) (s:Int) (w:World) (h:Rd w w.heap.size 1 A n (byteCells l)):
  Calls Tryz.prog 72 #[.agg #[.slice A n c,.int .i64 s]] w (qF w (SA l s)):=by
 have H:=Lib.hid h;clear h;have HO:=Lib.hid (kZ A n c l s)
 rcases yO l s with ⟨ho,hm⟩ | ⟨ho,hm⟩
 ·rw [show SA l s=(l,(l.length:Int),0) from if_pos hm];rw [ho] at HO;obtain ⟨hm1,_,_⟩:=nU hm;clear ho hm
  go_enter Tryz.func72,Tryz.ntmps72
  go_wp2_with fail
  refine (HO.out _ (by exact H.out.on (by go_grown))).mono ?_;rintro e w1 ⟨A1,c1,rfl,hb1,hown1⟩;have hz0:w.heap.size<w1.heap.size:=by have:=hb1.size;simp at this;omega
  have hz1:w.heap.size+1<w1.heap.size:=by have:=hb1.size;simp at this;omega
  obtain ⟨hc1,hf1⟩:=AY hb1;have HB:Hid (Below w.heap.size w w1):=Lib.hid (Below.trans (by go_grown) (hb1.mono (by simp;omega)));have HR:=Lib.hid (World.ownsRow.lower (base':=w.heap.size+1+1) hown1 (by simp));clear hb1 hown1
  go_wp2
  refine bodyPost_ret (v:= .tuple #[.agg #[.slice A1 l.length c1,.int .i64 l.length],.int .i64 0]) (by simp [results,Tryz.results72,go_sem,hc1,hz1]) rfl ?_;have hB:=HB.out;have hz:=hB.size;exact ⟨A1,c1,rfl,by go_grown,Rd.rO ((ownsRow_setCell_below (ownsRow_setCell_below HR.out (by simp) _) (by simp) _).alloc _),λa ha=>by have:=Ld HR.out a ha;refine ⟨by omega,?_⟩;simp;omega⟩
 rw [show SA l s=([],0,6) from if_neg (by simp [hm])];rw [ho] at HO;clear ho hm
 go_enter Tryz.func72,Tryz.ntmps72
 go_wp2_with fail
 refine (HO.out _ (by exact H.out.on (by go_grown))).mono ?_;rintro e w1 ⟨A1,c1,rfl,hb1,hown1⟩;have hz0:w.heap.size<w1.heap.size:=by have:=hb1.size;simp at this;omega
 have hz1:w.heap.size+1<w1.heap.size:=by have:=hb1.size;simp at this;omega
 obtain ⟨hc1,hf1⟩:=AY hb1;have HB:Hid (Below w.heap.size w w1):=Lib.hid (Below.trans (by go_grown) (hb1.mono (by simp;omega)));clear hb1 hown1
 go_wp2
 refine bodyPost_ret (v:= .tuple #[.agg #[.slice none 0 0,.int .i64 0],.int .i64 6]) (by simp [results,Tryz.results72,go_sem,hc1,hz1]) rfl ?_;have hB:=HB.out;have hz:=hB.size;exact ⟨none,0,rfl,by go_grown,Rd.none_,λa ha=>by cases ha⟩
def nY (l:List UInt8) (s keep:Int):List UInt8×Int×Int:=
 if dz l s=true then if keep<0 then ([],0,2) else if (l.length:Int)-s<keep then (l,l.length,0) else (l.take (s+keep).toNat,s+keep,0) else ([],0,6)
theorem Rd.take {w:World} {B size n:Nat} {A:Option Addr} {xs:List Value} (h:Rd w B size A n xs) {m:Nat} (hm:m<=n):Rd w B size A m (xs.take (m*size)):=by
 refine ⟨?_,λh0=>?_⟩
 ·rw [List.length_take,h.1];exact Nat.min_eq_left (Nat.mul_le_mul_right _ hm)
 obtain ⟨b,off,e,hb,hc⟩:=h.2 (by omega);refine ⟨b,off,e,hb,λj u hu=>hc j u ?_⟩;rw [List.getElem?_take] at hu
 split at hu
 ·exact hu
 cases hu
theorem JN (l:List UInt8) (m:Nat):(byteCells l).take m=byteCells (l.take m):=by simp [byteCells,List.map_take]
theorem Xx (A:Option Addr) (n c:Nat) (l:List UInt8) (s keep:Int) (w:World) (h:Rd w w.heap.size 1 A n (byteCells l)) (hm:dz l s=true) (h0:0<=keep) (hk:(l.length:Int)-s<keep):
  Calls Tryz.prog 57 #[.agg #[.slice A n c,.int .i64 s],.int .i64 keep] w (qF w (l,l.length,0)):=by
 have H:=Lib.hid h;clear h;have HO:=Lib.hid (kZ A n c l s);obtain ⟨hm1,hs0,hs1⟩:=nU hm;rw [zM hs0 hs1 hm1] at HO;obtain ⟨s',rfl⟩:=Int.eq_ofNat_of_zero_le hs0;clear hm
 go_enter Tryz.func57,Tryz.ntmps57
 go_wp2_with fail
 refine (HO.out _ (by exact H.out.on (by go_grown))).mono ?_;rintro e w1 ⟨A1,c1,rfl,hb1,hown1⟩;have hz0:w.heap.size<w1.heap.size:=by have:=hb1.size;simp at this;omega
 have hz1:w.heap.size+1<w1.heap.size:=by have:=hb1.size;simp at this;omega
 obtain ⟨hc1,hf1⟩:=AY hb1;have HB:Hid (Below w.heap.size w w1):=Lib.hid (Below.trans (by go_grown) (hb1.mono (by simp;omega)));have hcap:=Gf hown1;have HR:=Lib.hid (World.ownsRow.lower (base':=w.heap.size+1+1) hown1 (by simp));clear hb1 hown1;have e1:(s':Int)+((l.length:Int)-s')=l.length:=by omega
 go_wp2
 refine bodyPost_ret (v:= .tuple #[.agg #[.slice A1 l.length l.length,.int .i64 l.length],.int .i64 0]) (by simp [results,Tryz.results57,go_sem,hc1,hz1]) rfl ?_;have hB:=HB.out;have hz:=hB.size;exact ⟨A1,l.length,rfl,by go_grown,Rd.I6 ((ownsRow_setCell_below (ownsRow_setCell_below HR.out (by simp) _) (by simp) _).alloc _),λa ha=>by have:=Ld HR.out a ha;refine ⟨by omega,?_⟩;simp;omega⟩
theorem Uv (A:Option Addr) (n c:Nat) (l:List UInt8) (s keep:Int) (w:World) (h:Rd w w.heap.size 1 A n (byteCells l)) (hm:dz l s=true) (h0:0<=keep) (hk: ¬ (l.length:Int)-s<keep):
  Calls Tryz.prog 57 #[.agg #[.slice A n c,.int .i64 s],.int .i64 keep] w (qF w (l.take (s+keep).toNat,s+keep,0)):=by
 have H:=Lib.hid h;clear h;have HO:=Lib.hid (kZ A n c l s);obtain ⟨hm1,hs0,hs1⟩:=nU hm;rw [zM hs0 hs1 hm1] at HO;obtain ⟨s',rfl⟩:=Int.eq_ofNat_of_zero_le hs0;obtain ⟨k',rfl⟩:=Int.eq_ofNat_of_zero_le h0;have hsk:s'+k'<=l.length:=by omega
 have hk':(s':Int)+k'<=l.length:=by omega
 clear hm;rw [show ((s':Int)+(k':Int)).toNat=s'+k' by omega]
 go_enter Tryz.func57,Tryz.ntmps57
 go_wp2_with fail
 refine (HO.out _ (by exact H.out.on (by go_grown))).mono ?_;rintro e w1 ⟨A1,c1,rfl,hb1,hown1⟩;have hz0:w.heap.size<w1.heap.size:=by have:=hb1.size;simp at this;omega
 have hz1:w.heap.size+1<w1.heap.size:=by have:=hb1.size;simp at this;omega
 obtain ⟨hc1,hf1⟩:=AY hb1;have HB:Hid (Below w.heap.size w w1):=Lib.hid (Below.trans (by go_grown) (hb1.mono (by simp;omega)));have hcap:=Gf hown1;have HR:=Lib.hid (World.ownsRow.lower (base':=w.heap.size+1+1) hown1 (by simp));clear hb1 hown1
 go_wp2
 refine bodyPost_ret (v:= .tuple #[.agg #[.slice A1 (s'+k') (s'+k'),.int .i64 (s'+k')],.int .i64 0]) (by simp [results,Tryz.results57,go_sem,hc1,hz1]) rfl ?_;have hB:=HB.out;have hz:=hB.size;have hl:(l.take (s'+k')).length=s'+k':=by rw [List.length_take];omega
 have hr:=(Rd.I6 ((ownsRow_setCell_below (ownsRow_setCell_below HR.out (a:=⟨w.heap.size+1,0,none⟩) (by simp) (.slice A1 (s'+k') (s'+k'))) (a:=⟨w.heap.size+1,1,none⟩) (by simp) (.int .i64 (s'+k'))).alloc (.cells #[.slice A1 l.length c1,.int .i64 s'] 116))).take hsk;rw [Nat.mul_one,JN] at hr;exact ⟨A1,s'+k',by simp only [hl],by go_grown,by simpa only [hl] using hr,λa ha=>by have:=Ld HR.out a ha;refine ⟨by omega,?_⟩;simp;omega⟩
theorem Xy (A:Option Addr) (n c:Nat) (l:List UInt8) (s keep:Int) (w:World) (h:Rd w w.heap.size 1 A n (byteCells l)) (hm:dz l s=true) (h0:keep<0):
  Calls Tryz.prog 57 #[.agg #[.slice A n c,.int .i64 s],.int .i64 keep] w (qF w ([],0,2)):=by
 have H:=Lib.hid h;clear h;have HO:=Lib.hid (kZ A n c l s);obtain ⟨hm1,hs0,hs1⟩:=nU hm;rw [zM hs0 hs1 hm1] at HO;clear hm
 go_enter Tryz.func57,Tryz.ntmps57
 go_wp2_with fail
 refine (HO.out _ (by exact H.out.on (by go_grown))).mono ?_;rintro e w1 ⟨A1,c1,rfl,hb1,hown1⟩;have hz0:w.heap.size<w1.heap.size:=by have:=hb1.size;simp at this;omega
 have hz1:w.heap.size+1<w1.heap.size:=by have:=hb1.size;simp at this;omega
 obtain ⟨hc1,hf1⟩:=AY hb1;have HB:Hid (Below w.heap.size w w1):=Lib.hid (Below.trans (by go_grown) (hb1.mono (by simp;omega)));have hcap:=Gf hown1;have HR:=Lib.hid (World.ownsRow.lower (base':=w.heap.size+1+1) hown1 (by simp));clear hb1 hown1
 go_wp2
 refine bodyPost_ret (v:= .tuple #[.agg #[.slice none 0 0,.int .i64 0],.int .i64 2]) (by simp [results,Tryz.results57,go_sem,hc1,hz1]) rfl ?_;have hB:=HB.out;have hz:=hB.size;exact ⟨none,0,rfl,by go_grown,Rd.none_,λa ha=>by cases ha⟩
theorem ace (A:Option Addr) (n c:Nat) (l:List UInt8) (s keep:Int) (w:World) (h:Rd w w.heap.size 1 A n (byteCells l)) (hm:dz l s=false):
  Calls Tryz.prog 57 #[.agg #[.slice A n c,.int .i64 s],.int .i64 keep] w (qF w ([],0,6)):=by
 have H:=Lib.hid h;clear h;have HO:=Lib.hid (kZ A n c l s)
 rcases yO l s with ⟨_,hm'⟩ | ⟨ho,_⟩
 ·rw [hm] at hm';cases hm'
 rw [ho] at HO;clear ho hm
 go_enter Tryz.func57,Tryz.ntmps57
 go_wp2_with fail
 refine (HO.out _ (by exact H.out.on (by go_grown))).mono ?_;rintro e w1 ⟨A1,c1,rfl,hb1,hown1⟩;have hz0:w.heap.size<w1.heap.size:=by have:=hb1.size;simp at this;omega
 have hz1:w.heap.size+1<w1.heap.size:=by have:=hb1.size;simp at this;omega
 obtain ⟨hc1,hf1⟩:=AY hb1;have HB:Hid (Below w.heap.size w w1):=Lib.hid (Below.trans (by go_grown) (hb1.mono (by simp;omega)));have hcap:=Gf hown1;have HR:=Lib.hid (World.ownsRow.lower (base':=w.heap.size+1+1) hown1 (by simp));clear hb1 hown1
 go_wp2
 refine bodyPost_ret (v:= .tuple #[.agg #[.slice none 0 0,.int .i64 0],.int .i64 6]) (by simp [results,Tryz.results57,go_sem,hc1,hz1]) rfl ?_;have hB:=HB.out;have hz:=hB.size;exact ⟨none,0,rfl,by go_grown,Rd.none_,λa ha=>by cases ha⟩
theorem QC (A:Option Addr) (n c:Nat) (l:List UInt8) (s keep:Int) (w:World) (h:Rd w w.heap.size 1 A n (byteCells l)):
  Calls Tryz.prog 57 #[.agg #[.slice A n c,.int .i64 s],.int .i64 keep] w (qF w (nY l s keep)):=by
 unfold nY
 cases hm:dz l s
 ·rw [if_neg (by simp)];exact ace A n c l s keep w h hm
 rw [if_pos rfl];by_cases h0:keep<0
 ·rw [if_pos h0];exact Xy A n c l s keep w h hm h0
 rw [if_neg h0];by_cases hk:(l.length:Int)-s<keep
 ·rw [if_pos hk];exact Xx A n c l s keep w h hm (by omega) hk
 rw [if_neg hk];exact Uv A n c l s keep w h hm (by omega) hk
end Go.Proofs.YtnhimdkpkmbhlaaGreatDoor
