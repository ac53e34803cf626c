import Derived.Lib.SliceRun
import Derived.Deep.RegionLaw
import Derived.Test.YtnhimdkpkmbhlaaGreatDoorGd95e7
set_option maxRecDepth 100000
set_option maxHeartbeats 8000000
set_option linter.unusedSimpArgs false
set_option linter.unusedVariables false
namespace Go.Proofs.YtnhimdkpkmbhlaaGreatDoor
open ChangeShapes WideShapes RowKit
theorem Bq {P:Program} (w:World) (t e ty:TypeId) (z:Value) (ht:P.underlying t=some (.slice e)) (hv: ∀ w,(zeroValue e).run P w= .ok z w) (hz:0<z.cells.size) (h1: ∀ u∈z.cells.toList,u.oneCell'=true) (b o c:Nat)
  (hc: ∀ j,j<z.cells.size->(w.cell? ⟨b,o+j,none⟩).isSome=true) (hf: ∀ j,j<z.cells.size->w.frozen? ⟨b,o+j,none⟩=false):
  (Builtin.clear_ #[t] ty #[.slice (some ⟨b,o,none⟩) 1 c]).run P w= .ok (.tuple #[]) (w.setCells b o z.cells.toList):=by
 have hzc:(Builtin.zeroCells z.cells 1).toList=z.cells.toList:=by
  simp [Builtin.zeroCells];apply List.ext_getElem
  ·simp
  intro i h1 h2;simp at h1;simp [Nat.mod_eq_of_lt h1,getElem!_pos z.cells i h1]
 have hst:=run_storeCells_cells (P:=P) b o z.cells.toList 0 w (by simpa using hc) (by simpa using hf) h1;simp only [Nat.add_zero] at hst;simp [Builtin.clear_,run_underlying ht,hv,hzc,hst]
theorem QE (g n c i base:Nat) (xs:List Value) (w:World) (ho:w.ownsRow base 64 4 (.slice (some ⟨g,0,none⟩) n c) n xs) (h1: ∀ u∈xs,u.oneCell'=true) (hi:i<n):
  Calls Tryz.prog 45 #[.slice (some ⟨g,0,none⟩) n c,.int .i64 i,.int .i64 ((i:Int)+1)] w λe w'=>e= .returned (.slice (some ⟨g,0,none⟩) (n-1) c)/\sw w g w'/\w'.ownsRow base 64 4 (.slice (some ⟨g,0,none⟩) (n-1) c) (n-1) (xs.take (i*4)++xs.drop ((i+1)*4)):=by
 obtain ⟨hxl,hx2⟩:=ho
 rcases hx2 with ⟨hx2,_⟩ | ⟨g',cap,cur,hv,hg,hh,hnc,hcm,hsz,htk⟩
 ·cases hx2
 have hv':g=g'/\c=cap:=by
  simp only [Value.slice.injEq,Option.some.injEq,Addr.mk.injEq] at hv;exact ⟨hv.1.1,hv.2.2⟩
 obtain ⟨rfl,rfl⟩:=hv';clear hv;unfold maxLen at hcm;obtain ⟨j0,hj0,Pf,Pg,Ph⟩:=info_parts (show (Tryz.prog.info? 64).map (λi=>(i.zero,i.size,i.bytes))=some (some (Value.agg #[.int .i64 0,.int .i64 0,.int .i64 0,.int .i64 0]),4,32) by kernel_rfl);have hzv: ∀ w,(zeroValue 64).run Tryz.prog w= .ok (.agg #[.int .i64 0,.int .i64 0,.int .i64 0,.int .i64 0]) w:=Tryz.zeroValue64;have B0:fK w g cur 64:=⟨hh⟩;obtain ⟨news,hnews⟩: ∃ news,news=xs.drop ((i+1)*4):=⟨_,rfl⟩;have hlen:news.length=(n-(i+1))*4:=by rw [hnews,List.length_drop,hxl,Nat.sub_mul]
 have hcx: ∀ (j:Nat) (u:Value),xs[j]? =some u->cur[j]? =some u:=by
  intro j u hu;have hj:j<n*4:=by have:=(List.getElem?_eq_some_iff.1 hu).1;omega
  rw [<-htk,List.getElem?_take_of_lt hj] at hu;simpa using hu
 obtain ⟨A,hA,hsrc⟩: ∃ A:Addr,(if c=i+1 then some (⟨g,0,none⟩:Addr) else some ⟨g,(i+1)*4,none⟩)=some A/\Hid (∀ (t:Nat) (u:Value),news[t]? =some u->w.drew.cell? (A.add t)=some u):=by
  by_cases h:c=i+1
  ·refine ⟨⟨g,0,none⟩,by simp [h],λt u hu=>?_⟩;have h0:news.length=0:=by rw [hlen];omega
   rw [List.length_eq_zero_iff.1 h0] at hu;simp at hu
  refine ⟨⟨g,(i+1)*4,none⟩,by simp [h],λt u hu=>?_⟩;rw [hnews,List.getElem?_drop] at hu;rw [Go.WideShapes.add_plain];exact B0.drew.cell (hcx _ _ hu)
 have s1:Hid (news.length=(n-(i+1))*4):=hlen;have s2:Hid (∀ u∈news,u.oneCell'=true):=λu hu=>h1 u (List.mem_of_mem_drop (by rw [hnews] at hu;exact hu));have s3:Hid (∀ t,t<news.length->(w.drew.cell? ⟨g,0+i*4+t,none⟩).isSome=true/\w.drew.frozen? ⟨g,0+i*4+t,none⟩=false):=by
  intro t ht;rw [hlen] at ht;have hb:0+i*4+t<cur.size:=by rw [hsz];omega
  exact ⟨by rw [B0.drew.cell (Array.getElem?_eq_getElem hb)];rfl,B0.drew.free _⟩
 have B1:=jq news (0+i*4) B0.drew;have hs1:(dn cur (0+i*4) news).size=c*4:=by rw [mJ,hsz]
 have hcl:Hid (∀ ty,(Builtin.clear_ #[40] ty #[.slice (some ⟨g,(i+(n-(i+1)))*4,none⟩) (n-(i+(n-(i+1)))) (c-(i+(n-(i+1))))]).run Tryz.prog (w.drew.setCells g (0+i*4) news)= .ok (.tuple #[]) ((w.drew.setCells g (0+i*4) news).setCells g ((i+(n-(i+1)))*4) (#[.int .i64 0,.int .i64 0,.int .i64 0,.int .i64 0]:Array Value).toList)):=by
  intro ty;rw [show n-(i+(n-(i+1)))=1 by omega];refine Bq _ _ 64 ty (.agg #[.int .i64 0,.int .i64 0,.int .i64 0,.int .i64 0]) Tryz.underlying40 hzv (by simp [Value.cells]) (by simp [Value.cells,Value.oneCell']) g _ _ (λj hj=>?_) (λj hj=>B1.free _);have hj':j<4:=by simpa [Value.cells] using hj
  have hb:(i+(n-(i+1)))*4+j< (dn cur (0+i*4) news).size:=by rw [hs1];omega
  rw [B1.cell (Array.getElem?_eq_getElem hb)];rfl
 have U:sw w g ((w.drew.setCells g (0+i*4) news).setCells g ((i+(n-(i+1)))*4) (#[.int .i64 0,.int .i64 0,.int .i64 0,.int .i64 0]:Array Value).toList):=(Et w g).trans ((jr g _ _ _).trans (jr g _ _ _));have B2:=jq (#[.int .i64 0,.int .i64 0,.int .i64 0,.int .i64 0]:Array Value).toList ((i+(n-(i+1)))*4) B1;have hl2:(#[.int .i64 0,.int .i64 0,.int .i64 0,.int .i64 0]:Array Value).toList.length=4:=rfl;have hfin:(dn (dn cur (0+i*4) news) ((i+(n-(i+1)))*4) (#[.int .i64 0,.int .i64 0,.int .i64 0,.int .i64 0]:Array Value).toList).toList.take ((n-1)*4)=xs.take (i*4)++news:=by
  rw [gQ _ _ _ (by rw [hs1,hl2];omega),gQ _ _ _ (by rw [hlen,hsz];omega)];have e1:(n-1)*4=(i+(n-(i+1)))*4:=by congr 1;omega
  have a1:(cur.toList.take (0+i*4)).length=i*4:=by simp [hsz];omega
  rw [e1,List.append_assoc,List.take_append_of_le_length (by simp [hlen,hsz];omega),List.take_take,Nat.min_self];rw [List.take_append_of_le_length (by simp [hlen,hsz];omega),List.take_of_length_le (by simp [hlen,hsz];omega)]
  congr 1
  rw [<-htk,List.take_take,Nat.zero_add,Nat.min_eq_left (by omega)]
 have HF:Hid (((w.drew.setCells g (0+i*4) news).setCells g ((i+(n-(i+1)))*4) (#[.int .i64 0,.int .i64 0,.int .i64 0,.int .i64 0]:Array Value).toList).ownsRow base 64 4 (.slice (some ⟨g,0,none⟩) (n-1) c) (n-1) (xs.take (i*4)++news)):=by
  refine ⟨by rw [List.length_append,List.length_take,hlen,hxl];omega,.inr ⟨g,c,_,rfl,hg,B2.blk,by omega,hcm,by rw [mJ,hs1],hfin⟩⟩
 rw [<-hnews];have HU:=Lib.hid U;clear hnews hlen hcx B0 B1 B2 hs1 hfin U hl2 hh hsz htk hxl h1 hg Pf Ph hzv;have hic:i<=c:=by omega
 have hjc:i+1<=c:=by omega
 have t1:((i:Int)==(i:Int)+1)=false:=by rw [beq_eq_false_iff_ne];omega
 have t2:0<=(i:Int)+1:=by omega
 have t3:(i:Int)+1<=(n:Int):=by omega
 obtain ⟨W1,hW⟩: ∃ W1,Hid (W1=w.drew.setCells g (0+i*4) news):=⟨_,Lib.hid rfl⟩;rw [<-hW.out] at hcl HF HU;generalize hZ:(#[.int .i64 0,.int .i64 0,.int .i64 0,.int .i64 0]:Array Value).toList=zs at hcl HF HU;clear hZ;have hcl:=hcl.out
 go_enter Tryz.func45,Tryz.ntmps45
 go_wp2_with fail
 go_region_law (refine step_append_room rfl (.tmp 22) (.tmp 25) 40 rfl 64 j0 4 Tryz.underlying40 hj0 Pg g 0 i c (by simp [Act.eval,Act.put]) A (n-(i+1)) (c-(i+1)) news (by simp [Act.eval,Act.put]) s1.out hsrc.out s2.out (by omega) s3.out ?_;rw [<-hW.out])
 go_wp2_with fail
 go_ret
 refine ⟨?_,HU.out,HF.out⟩;simp;omega
theorem QF (g n c i base:Nat) (xs:List Value) (w:World) (ho:w.ownsRow base 146 23 (.slice (some ⟨g,0,none⟩) n c) n xs) (h1: ∀ u∈xs,u.oneCell'=true) (hi:i<n):
  Calls Tryz.prog 75 #[.slice (some ⟨g,0,none⟩) n c,.int .i64 i,.int .i64 ((i:Int)+1)] w λe w'=>e= .returned (.slice (some ⟨g,0,none⟩) (n-1) c)/\sw w g w'/\w'.ownsRow base 146 23 (.slice (some ⟨g,0,none⟩) (n-1) c) (n-1) (xs.take (i*23)++xs.drop ((i+1)*23)):=by
 obtain ⟨hxl,hx2⟩:=ho
 rcases hx2 with ⟨hx2,_⟩ | ⟨g',cap,cur,hv,hg,hh,hnc,hcm,hsz,htk⟩
 ·cases hx2
 have hv':g=g'/\c=cap:=by
  simp only [Value.slice.injEq,Option.some.injEq,Addr.mk.injEq] at hv;exact ⟨hv.1.1,hv.2.2⟩
 obtain ⟨rfl,rfl⟩:=hv';clear hv;unfold maxLen at hcm;obtain ⟨j0,hj0,Pf,Pg,Ph⟩:=info_parts (show (Tryz.prog.info? 146).map (λi=>(i.zero,i.size,i.bytes))=some (some (Value.agg #[.int .i64 0,.int .i64 0,.int .i64 0,.int .i64 0,.int .i64 0,.int .i64 0,.int .i64 0,.int .i64 0,.int .i64 0,.int .i64 0,.int .i64 0,.int .i64 0,.int .i64 0,.slice none 0 0,.bool false,.int .i64 0,.int .i64 0,.int .i64 0,.int .i64 0,.int .i64 0,.int .i64 0,.int .i64 0,.int .i64 0]),23,200) by kernel_rfl);have hzv: ∀ w,(zeroValue 146).run Tryz.prog w= .ok (.agg #[.int .i64 0,.int .i64 0,.int .i64 0,.int .i64 0,.int .i64 0,.int .i64 0,.int .i64 0,.int .i64 0,.int .i64 0,.int .i64 0,.int .i64 0,.int .i64 0,.int .i64 0,.slice none 0 0,.bool false,.int .i64 0,.int .i64 0,.int .i64 0,.int .i64 0,.int .i64 0,.int .i64 0,.int .i64 0,.int .i64 0]) w:=Tryz.zeroValue146;have B0:fK w g cur 146:=⟨hh⟩;obtain ⟨news,hnews⟩: ∃ news,news=xs.drop ((i+1)*23):=⟨_,rfl⟩;have hlen:news.length=(n-(i+1))*23:=by rw [hnews,List.length_drop,hxl,Nat.sub_mul]
 have hcx: ∀ (j:Nat) (u:Value),xs[j]? =some u->cur[j]? =some u:=by
  intro j u hu;have hj:j<n*23:=by have:=(List.getElem?_eq_some_iff.1 hu).1;omega
  rw [<-htk,List.getElem?_take_of_lt hj] at hu;simpa using hu
 obtain ⟨A,hA,hsrc⟩: ∃ A:Addr,(if c=i+1 then some (⟨g,0,none⟩:Addr) else some ⟨g,(i+1)*23,none⟩)=some A/\Hid (∀ (t:Nat) (u:Value),news[t]? =some u->w.drew.cell? (A.add t)=some u):=by
  by_cases h:c=i+1
  ·refine ⟨⟨g,0,none⟩,by simp [h],λt u hu=>?_⟩;have h0:news.length=0:=by rw [hlen];omega
   rw [List.length_eq_zero_iff.1 h0] at hu;simp at hu
  refine ⟨⟨g,(i+1)*23,none⟩,by simp [h],λt u hu=>?_⟩;rw [hnews,List.getElem?_drop] at hu;rw [Go.WideShapes.add_plain];exact B0.drew.cell (hcx _ _ hu)
 have s1:Hid (news.length=(n-(i+1))*23):=hlen;have s2:Hid (∀ u∈news,u.oneCell'=true):=λu hu=>h1 u (List.mem_of_mem_drop (by rw [hnews] at hu;exact hu));have s3:Hid (∀ t,t<news.length->(w.drew.cell? ⟨g,0+i*23+t,none⟩).isSome=true/\w.drew.frozen? ⟨g,0+i*23+t,none⟩=false):=by
  intro t ht;rw [hlen] at ht;have hb:0+i*23+t<cur.size:=by rw [hsz];omega
  exact ⟨by rw [B0.drew.cell (Array.getElem?_eq_getElem hb)];rfl,B0.drew.free _⟩
 have B1:=jq news (0+i*23) B0.drew;have hs1:(dn cur (0+i*23) news).size=c*23:=by rw [mJ,hsz]
 have hcl:Hid (∀ ty,(Builtin.clear_ #[106] ty #[.slice (some ⟨g,(i+(n-(i+1)))*23,none⟩) (n-(i+(n-(i+1)))) (c-(i+(n-(i+1))))]).run Tryz.prog (w.drew.setCells g (0+i*23) news)= .ok (.tuple #[]) ((w.drew.setCells g (0+i*23) news).setCells g ((i+(n-(i+1)))*23) (#[.int .i64 0,.int .i64 0,.int .i64 0,.int .i64 0,.int .i64 0,.int .i64 0,.int .i64 0,.int .i64 0,.int .i64 0,.int .i64 0,.int .i64 0,.int .i64 0,.int .i64 0,.slice none 0 0,.bool false,.int .i64 0,.int .i64 0,.int .i64 0,.int .i64 0,.int .i64 0,.int .i64 0,.int .i64 0,.int .i64 0]:Array Value).toList)):=by
  intro ty;rw [show n-(i+(n-(i+1)))=1 by omega];refine Bq _ _ 146 ty (.agg #[.int .i64 0,.int .i64 0,.int .i64 0,.int .i64 0,.int .i64 0,.int .i64 0,.int .i64 0,.int .i64 0,.int .i64 0,.int .i64 0,.int .i64 0,.int .i64 0,.int .i64 0,.slice none 0 0,.bool false,.int .i64 0,.int .i64 0,.int .i64 0,.int .i64 0,.int .i64 0,.int .i64 0,.int .i64 0,.int .i64 0]) Tryz.underlying106 hzv (by simp [Value.cells]) (by simp [Value.cells,Value.oneCell']) g _ _ (λj hj=>?_) (λj hj=>B1.free _);have hj':j<23:=by simpa [Value.cells] using hj
  have hb:(i+(n-(i+1)))*23+j< (dn cur (0+i*23) news).size:=by rw [hs1];omega
  rw [B1.cell (Array.getElem?_eq_getElem hb)];rfl
 have U:sw w g ((w.drew.setCells g (0+i*23) news).setCells g ((i+(n-(i+1)))*23) (#[.int .i64 0,.int .i64 0,.int .i64 0,.int .i64 0,.int .i64 0,.int .i64 0,.int .i64 0,.int .i64 0,.int .i64 0,.int .i64 0,.int .i64 0,.int .i64 0,.int .i64 0,.slice none 0 0,.bool false,.int .i64 0,.int .i64 0,.int .i64 0,.int .i64 0,.int .i64 0,.int .i64 0,.int .i64 0,.int .i64 0]:Array Value).toList):=(Et w g).trans ((jr g _ _ _).trans (jr g _ _ _));have B2:=jq (#[.int .i64 0,.int .i64 0,.int .i64 0,.int .i64 0,.int .i64 0,.int .i64 0,.int .i64 0,.int .i64 0,.int .i64 0,.int .i64 0,.int .i64 0,.int .i64 0,.int .i64 0,.slice none 0 0,.bool false,.int .i64 0,.int .i64 0,.int .i64 0,.int .i64 0,.int .i64 0,.int .i64 0,.int .i64 0,.int .i64 0]:Array Value).toList ((i+(n-(i+1)))*23) B1;have hl2:(#[.int .i64 0,.int .i64 0,.int .i64 0,.int .i64 0,.int .i64 0,.int .i64 0,.int .i64 0,.int .i64 0,.int .i64 0,.int .i64 0,.int .i64 0,.int .i64 0,.int .i64 0,.slice none 0 0,.bool false,.int .i64 0,.int .i64 0,.int .i64 0,.int .i64 0,.int .i64 0,.int .i64 0,.int .i64 0,.int .i64 0]:Array Value).toList.length=23:=rfl;have hfin:(dn (dn cur (0+i*23) news) ((i+(n-(i+1)))*23) (#[.int .i64 0,.int .i64 0,.int .i64 0,.int .i64 0,.int .i64 0,.int .i64 0,.int .i64 0,.int .i64 0,.int .i64 0,.int .i64 0,.int .i64 0,.int .i64 0,.int .i64 0,.slice none 0 0,.bool false,.int .i64 0,.int .i64 0,.int .i64 0,.int .i64 0,.int .i64 0,.int .i64 0,.int .i64 0,.int .i64 0]:Array Value).toList).toList.take ((n-1)*23)=xs.take (i*23)++news:=by
  rw [gQ _ _ _ (by rw [hs1,hl2];omega),gQ _ _ _ (by rw [hlen,hsz];omega)];have e1:(n-1)*23=(i+(n-(i+1)))*23:=by congr 1;omega
  have a1:(cur.toList.take (0+i*23)).length=i*23:=by simp [hsz];omega
  rw [e1,List.append_assoc,List.take_append_of_le_length (by simp [hlen,hsz];omega),List.take_take,Nat.min_self];rw [List.take_append_of_le_length (by simp [hlen,hsz];omega),List.take_of_length_le (by simp [hlen,hsz];omega)]
  congr 1
  rw [<-htk,List.take_take,Nat.zero_add,Nat.min_eq_left (by omega)]
 have HF:Hid (((w.drew.setCells g (0+i*23) news).setCells g ((i+(n-(i+1)))*23) (#[.int .i64 0,.int .i64 0,.int .i64 0,.int .i64 0,.int .i64 0,.int .i64 0,.int .i64 0,.int .i64 0,.int .i64 0,.int .i64 0,.int .i64 0,.int .i64 0,.int .i64 0,.slice none 0 0,.bool false,.int .i64 0,.int .i64 0,.int .i64 0,.int .i64 0,.int .i64 0,.int .i64 0,.int .i64 0,.int .i64 0]:Array Value).toList).ownsRow base 146 23 (.slice (some ⟨g,0,none⟩) (n-1) c) (n-1) (xs.take (i*23)++news)):=by
  refine ⟨by rw [List.length_append,List.length_take,hlen,hxl];omega,.inr ⟨g,c,_,rfl,hg,B2.blk,by omega,hcm,by rw [mJ,hs1],hfin⟩⟩
 rw [<-hnews];have HU:=Lib.hid U;clear hnews hlen hcx B0 B1 B2 hs1 hfin U hl2 hh hsz htk hxl h1 hg Pf Ph hzv;have hic:i<=c:=by omega
 have hjc:i+1<=c:=by omega
 have t1:((i:Int)==(i:Int)+1)=false:=by rw [beq_eq_false_iff_ne];omega
 have t2:0<=(i:Int)+1:=by omega
 have t3:(i:Int)+1<=(n:Int):=by omega
 obtain ⟨W1,hW⟩: ∃ W1,Hid (W1=w.drew.setCells g (0+i*23) news):=⟨_,Lib.hid rfl⟩;rw [<-hW.out] at hcl HF HU;generalize hZ:(#[.int .i64 0,.int .i64 0,.int .i64 0,.int .i64 0,.int .i64 0,.int .i64 0,.int .i64 0,.int .i64 0,.int .i64 0,.int .i64 0,.int .i64 0,.int .i64 0,.int .i64 0,.slice none 0 0,.bool false,.int .i64 0,.int .i64 0,.int .i64 0,.int .i64 0,.int .i64 0,.int .i64 0,.int .i64 0,.int .i64 0]:Array Value).toList=zs at hcl HF HU;clear hZ;have hcl:=hcl.out
 go_enter Tryz.func75,Tryz.ntmps75
 go_wp2_with fail
 go_region_law (refine step_append_room rfl (.tmp 22) (.tmp 25) 106 rfl 146 j0 23 Tryz.underlying106 hj0 Pg g 0 i c (by simp [Act.eval,Act.put]) A (n-(i+1)) (c-(i+1)) news (by simp [Act.eval,Act.put]) s1.out hsrc.out s2.out (by omega) s3.out ?_;rw [<-hW.out])
 go_wp2_with fail
 go_ret
 refine ⟨?_,HU.out,HF.out⟩;simp;omega
end Go.Proofs.YtnhimdkpkmbhlaaGreatDoor
