import Derived.Lib.SliceRun
import Derived.Deep.RegionLaw
import Derived.Scope
import Derived.Test.YtceeleolddkibaaGreatDoorCards
import Derived.Test.YtceeleolddkibaaGreatDoorG37a0f
set_option linter.all false
set_option maxRecDepth 100000
set_option maxHeartbeats 8000000
namespace Go.Proofs.YtceeleolddkibaaGreatDoor
open List Nat Go.Proofs.Tryz ChangeShapes WideShapes RowKit
def FY{P:Program}(w:World)(t e ty:TypeId)(z:Value)(J:P.underlying t=some (.slice e))(hv:∀w,(zeroValue e).run P w=.ok z w)(Z:0<z.cells.size)(h1:∀u∈z.cells.toList,u.oneCell'=true)(b o c:Nat)
  (M:∀j,j<z.cells.size->(w.cell? ⟨b,o+j,none⟩).isSome=true) (O:∀j,j<z.cells.size->w.frozen? ⟨b,o+j,none⟩=false):
  (Builtin.clear_ #[t] ty #[.slice (some ⟨b,o,none⟩) 1 c]).run P w=.ok (.tuple #[]) (w.setCells b o z.cells.toList):=by
 have I:(Builtin.zeroCells z.cells 1).toList=z.cells.toList:=by
  simp[Builtin.zeroCells];apply ext_getElem
  ·simp
  intro i h1 h2;simp at h1;simp[mod_eq_of_lt h1,getElem!_pos z.cells i h1]
 have h:=run_storeCells_cells (P:=P) b o z.cells.toList 0 w (by simpa using M) (by simpa using O) h1;simp only[Nat.add_zero]at h;simp[Builtin.clear_,run_underlying J,hv,I,h]
def X6(g n c i base:Nat)(xs:List Value)(w:World)(ho:w.ownsRow base 220 4 (.slice (some ⟨g,0,none⟩) n c) n xs)(h1:∀u∈xs,u.oneCell'=true)(hi:i<n):
 Calls prog 124 #[.slice (some ⟨g,0,none⟩) n c,.int .i64 i,.int .i64 ((i:Int)+1)] w λe w'=>e=.returned (.slice (some ⟨g,0,none⟩) (n-1) c)/\xA w g w'/\w'.ownsRow base 220 4 (.slice (some ⟨g,0,none⟩) (n-1) c) (n-1) (xs.take (i*4)++xs.drop ((i+1)*4)):=by
 obtain⟨hxl,hx2⟩:=ho
 rcases hx2 with⟨hx2,_⟩|⟨g',cap,cur,hv,hg,hh,hnc,hcm,hsz,htk⟩
 ·cases hx2
 have hv':g=g'/\c=cap:=by
  simp only[Value.slice.injEq,Option.some.injEq,Addr.mk.injEq]at hv;exact⟨hv.1.1,hv.2.2⟩
 obtain⟨rfl,rfl⟩:=hv';clear hv;unfold maxLen at hcm;obtain⟨j0,hj0,Wt,Wu,Wv⟩:=info_parts (show(prog.info? 220).map (λi=>(i.zero,i.size,i.bytes))=some (some (Value.agg #[.int .i64 0,.int .i64 0,.int .i64 0,.int .i64 0]),4,32) by kernel_rfl);have hzv:∀w,(zeroValue 220).run prog w=.ok (.agg #[.int .i64 0,.int .i64 0,.int .i64 0,.int .i64 0]) w:=Tryz.zeroValue220;have B0:iq w g cur 220:=⟨hh⟩;obtain⟨news,hnews⟩:∃news,news=xs.drop ((i+1)*4):=⟨_,E⟩;have hlen:news.length=(n-(i+1))*4:=by rw[hnews,dL,hxl,GI]
 have hcx:∀(j:Nat) (u:Value),xs[j]? =some u->cur[j]? =some u:=by
  intro j u hu;have hj:j<n*4:=by have:=(cK.1 hu).1;omega
  rw[<-htk,yJ hj]at hu;simpa using hu
 obtain⟨A,hA,hsrc⟩:∃A:Addr,(if c=i+1 then some (⟨g,0,none⟩:Addr)else some ⟨g,(i+1)*4,none⟩)=some A/\Hid (∀(t:Nat) (u:Value),news[t]? =some u->w.drew.cell? (A.add t)=some u):=by
  by_cases h:c=i+1
  ·refine⟨⟨g,0,none⟩,by simp[h],λt u hu=>?_⟩;have h0:news.length=0:=by rw[hlen];omega
   rw[qY.1 h0]at hu;simp at hu
  refine⟨⟨g,(i+1)*4,none⟩,by simp[h],λt u hu=>?_⟩;rw[hnews,Dz]at hu;rw[Go.WideShapes.add_plain];exact B0.drew.cell (hcx _ _ hu)
 have s1:Hid (news.length=(n-(i+1))*4):=hlen;have s2:Hid (∀u∈news,u.oneCell'=true):=λu hu=>h1 u (TQ (by rw[hnews]at hu;exact hu));have s3:Hid (∀t,t<news.length->(w.drew.cell? ⟨g,0+i*4+t,none⟩).isSome=true/\w.drew.frozen? ⟨g,0+i*4+t,none⟩=false):=by
  intro t ht;rw[hlen]at ht;have hb:0+i*4+t<cur.size:=by rw[hsz];omega
  exact⟨by rw[B0.drew.cell (yL hb)];rfl,B0.drew.free _⟩
 have B1:=kY news (0+i*4) B0.drew;have hs1:(dP cur (0+i*4) news).size=c*4:=by rw[qj,hsz]
 have hcl:Hid (∀ty,(Builtin.clear_ #[172] ty #[.slice (some ⟨g,(i+(n-(i+1)))*4,none⟩) (n-(i+(n-(i+1)))) (c-(i+(n-(i+1))))]).run prog (w.drew.setCells g (0+i*4) news)=.ok (.tuple #[]) ((w.drew.setCells g (0+i*4) news).setCells g ((i+(n-(i+1)))*4) (#[.int .i64 0,.int .i64 0,.int .i64 0,.int .i64 0]:Array Value).toList)):=by
  intro ty;rw[show n-(i+(n-(i+1)))=1 by omega];refine FY _ _ 220 ty (.agg #[.int .i64 0,.int .i64 0,.int .i64 0,.int .i64 0]) underlying172 hzv (by simp[Value.cells]) (by simp[Value.cells,Value.oneCell']) g _ _ (λj hj=>?_) (λj hj=>B1.free _);have hj':j<4:=by simpa[Value.cells]using hj
  have hb:(i+(n-(i+1)))*4+j< (dP cur (0+i*4) news).size:=by rw[hs1];omega
  rw[B1.cell (yL hb)];rfl
 have U:xA w g ((w.drew.setCells g (0+i*4) news).setCells g ((i+(n-(i+1)))*4) (#[.int .i64 0,.int .i64 0,.int .i64 0,.int .i64 0]:Array Value).toList):=(JW w g).trans ((kZ g _ _ _).trans (kZ g _ _ _));have B2:=kY (#[.int .i64 0,.int .i64 0,.int .i64 0,.int .i64 0]:Array Value).toList ((i+(n-(i+1)))*4) B1;have hl2:(#[.int .i64 0,.int .i64 0,.int .i64 0,.int .i64 0]:Array Value).toList.length=4:=rfl;have hfin:(dP (dP cur (0+i*4) news) ((i+(n-(i+1)))*4) (#[.int .i64 0,.int .i64 0,.int .i64 0,.int .i64 0]:Array Value).toList).toList.take ((n-1)*4)=xs.take (i*4)++news:=by
  rw[jr _ _ _ (by rw[hs1,hl2];omega),jr _ _ _ (by rw[hlen,hsz];omega)];have e1:(n-1)*4=(i+(n-(i+1)))*4:=by congr 1;omega
  have a1:(cur.toList.take (0+i*4)).length=i*4:=by simp[hsz];omega
  rw[e1,gq,Bp (by simp[hlen,hsz];omega),yO,Nat.min_self];rw[Bp (by simp[hlen,hsz];omega),jE (by simp[hlen,hsz];omega)]
  congr 1
  rw[<-htk,yO,fq,LH Y]
 have HF:Hid (((w.drew.setCells g (0+i*4) news).setCells g ((i+(n-(i+1)))*4) (#[.int .i64 0,.int .i64 0,.int .i64 0,.int .i64 0]:Array Value).toList).ownsRow base 220 4 (.slice (some ⟨g,0,none⟩) (n-1) c) (n-1) (xs.take (i*4)++news)):=by
  refine⟨by rw[aY,dV,hlen,hxl];omega,.inr ⟨g,c,_,E,hg,B2.Pj,by omega,hcm,by rw[qj,hs1],hfin⟩⟩
 rw[<-hnews];have HU:=Lib.hid U;clear hnews hlen hcx B0 B1 B2 hs1 hfin U hl2 hh hsz htk hxl h1 hg Wt Wv hzv;have hic:i<=c:=Y;have hjc:i+1<=c:=Y;have t1:((i:Int)==(i:Int)+1)=false:=by rw[Bh];omega
 have t2:0<=(i:Int)+1:=Y;have t3:(i:Int)+1<=(n:Int):=Y;obtain⟨W1,hW⟩:∃W1,Hid (W1=w.drew.setCells g (0+i*4) news):=⟨_,Lib.hid E⟩;rw[<-hW.out]at hcl HF HU;generalize hZ:(#[.int .i64 0,.int .i64 0,.int .i64 0,.int .i64 0]:Array Value).toList=zs at hcl HF HU;clear hZ;have hcl:=hcl.out
 go_enter func124,Tryz.ntmps124
 go_wp2_with fail
 go_region_law (refine step_append_room E (.tmp 22) (.tmp 25) 172 E 220 j0 4 underlying172 hj0 Wu g 0 i c (by simp[Act.eval,Act.put]) A (n-(i+1)) (c-(i+1)) news (by simp[Act.eval,Act.put]) s1.out hsrc.out s2.out Y s3.out ?_;rw[<-hW.out])
 go_wp2_with fail
 go_ret
 refine⟨?_,HU.out,HF.out⟩;simp;omega
def X7(g n c i base:Nat)(xs:List Value)(w:World)(ho:w.ownsRow base 113 23 (.slice (some ⟨g,0,none⟩) n c) n xs)(h1:∀u∈xs,u.oneCell'=true)(hi:i<n):
 Calls prog 43 #[.slice (some ⟨g,0,none⟩) n c,.int .i64 i,.int .i64 ((i:Int)+1)] w λe w'=>e=.returned (.slice (some ⟨g,0,none⟩) (n-1) c)/\xA w g w'/\w'.ownsRow base 113 23 (.slice (some ⟨g,0,none⟩) (n-1) c) (n-1) (xs.take (i*23)++xs.drop ((i+1)*23)):=by
 obtain⟨hxl,hx2⟩:=ho
 rcases hx2 with⟨hx2,_⟩|⟨g',cap,cur,hv,hg,hh,hnc,hcm,hsz,htk⟩
 ·cases hx2
 have hv':g=g'/\c=cap:=by
  simp only[Value.slice.injEq,Option.some.injEq,Addr.mk.injEq]at hv;exact⟨hv.1.1,hv.2.2⟩
 obtain⟨rfl,rfl⟩:=hv';clear hv;unfold maxLen at hcm;obtain⟨j0,hj0,Wt,Wu,Wv⟩:=info_parts (show(prog.info? 113).map (λi=>(i.zero,i.size,i.bytes))=some (some (Value.agg #[.int .i64 0,.int .i64 0,.int .i64 0,.int .i64 0,.int .i64 0,.int .i64 0,.int .i64 0,.int .i64 0,.int .i64 0,.int .i64 0,.int .i64 0,.int .i64 0,.int .i64 0,.slice none 0 0,.bool false,.int .i64 0,.int .i64 0,.int .i64 0,.int .i64 0,.int .i64 0,.int .i64 0,.int .i64 0,.int .i64 0]),23,200) by kernel_rfl);have hzv:∀w,(zeroValue 113).run prog w=.ok (.agg #[.int .i64 0,.int .i64 0,.int .i64 0,.int .i64 0,.int .i64 0,.int .i64 0,.int .i64 0,.int .i64 0,.int .i64 0,.int .i64 0,.int .i64 0,.int .i64 0,.int .i64 0,.slice none 0 0,.bool false,.int .i64 0,.int .i64 0,.int .i64 0,.int .i64 0,.int .i64 0,.int .i64 0,.int .i64 0,.int .i64 0]) w:=Tryz.zeroValue113;have B0:iq w g cur 113:=⟨hh⟩;obtain⟨news,hnews⟩:∃news,news=xs.drop ((i+1)*23):=⟨_,E⟩;have hlen:news.length=(n-(i+1))*23:=by rw[hnews,dL,hxl,GI]
 have hcx:∀(j:Nat) (u:Value),xs[j]? =some u->cur[j]? =some u:=by
  intro j u hu;have hj:j<n*23:=by have:=(cK.1 hu).1;omega
  rw[<-htk,yJ hj]at hu;simpa using hu
 obtain⟨A,hA,hsrc⟩:∃A:Addr,(if c=i+1 then some (⟨g,0,none⟩:Addr)else some ⟨g,(i+1)*23,none⟩)=some A/\Hid (∀(t:Nat) (u:Value),news[t]? =some u->w.drew.cell? (A.add t)=some u):=by
  by_cases h:c=i+1
  ·refine⟨⟨g,0,none⟩,by simp[h],λt u hu=>?_⟩;have h0:news.length=0:=by rw[hlen];omega
   rw[qY.1 h0]at hu;simp at hu
  refine⟨⟨g,(i+1)*23,none⟩,by simp[h],λt u hu=>?_⟩;rw[hnews,Dz]at hu;rw[Go.WideShapes.add_plain];exact B0.drew.cell (hcx _ _ hu)
 have s1:Hid (news.length=(n-(i+1))*23):=hlen;have s2:Hid (∀u∈news,u.oneCell'=true):=λu hu=>h1 u (TQ (by rw[hnews]at hu;exact hu));have s3:Hid (∀t,t<news.length->(w.drew.cell? ⟨g,0+i*23+t,none⟩).isSome=true/\w.drew.frozen? ⟨g,0+i*23+t,none⟩=false):=by
  intro t ht;rw[hlen]at ht;have hb:0+i*23+t<cur.size:=by rw[hsz];omega
  exact⟨by rw[B0.drew.cell (yL hb)];rfl,B0.drew.free _⟩
 have B1:=kY news (0+i*23) B0.drew;have hs1:(dP cur (0+i*23) news).size=c*23:=by rw[qj,hsz]
 have hcl:Hid (∀ty,(Builtin.clear_ #[81] ty #[.slice (some ⟨g,(i+(n-(i+1)))*23,none⟩) (n-(i+(n-(i+1)))) (c-(i+(n-(i+1))))]).run prog (w.drew.setCells g (0+i*23) news)=.ok (.tuple #[]) ((w.drew.setCells g (0+i*23) news).setCells g ((i+(n-(i+1)))*23) (#[.int .i64 0,.int .i64 0,.int .i64 0,.int .i64 0,.int .i64 0,.int .i64 0,.int .i64 0,.int .i64 0,.int .i64 0,.int .i64 0,.int .i64 0,.int .i64 0,.int .i64 0,.slice none 0 0,.bool false,.int .i64 0,.int .i64 0,.int .i64 0,.int .i64 0,.int .i64 0,.int .i64 0,.int .i64 0,.int .i64 0]:Array Value).toList)):=by
  intro ty;rw[show n-(i+(n-(i+1)))=1 by omega];refine FY _ _ 113 ty (.agg #[.int .i64 0,.int .i64 0,.int .i64 0,.int .i64 0,.int .i64 0,.int .i64 0,.int .i64 0,.int .i64 0,.int .i64 0,.int .i64 0,.int .i64 0,.int .i64 0,.int .i64 0,.slice none 0 0,.bool false,.int .i64 0,.int .i64 0,.int .i64 0,.int .i64 0,.int .i64 0,.int .i64 0,.int .i64 0,.int .i64 0]) Tryz.underlying81 hzv (by simp[Value.cells]) (by simp[Value.cells,Value.oneCell']) g _ _ (λj hj=>?_) (λj hj=>B1.free _);have hj':j<23:=by simpa[Value.cells]using hj
  have hb:(i+(n-(i+1)))*23+j< (dP cur (0+i*23) news).size:=by rw[hs1];omega
  rw[B1.cell (yL hb)];rfl
 have U:xA w g ((w.drew.setCells g (0+i*23) news).setCells g ((i+(n-(i+1)))*23) (#[.int .i64 0,.int .i64 0,.int .i64 0,.int .i64 0,.int .i64 0,.int .i64 0,.int .i64 0,.int .i64 0,.int .i64 0,.int .i64 0,.int .i64 0,.int .i64 0,.int .i64 0,.slice none 0 0,.bool false,.int .i64 0,.int .i64 0,.int .i64 0,.int .i64 0,.int .i64 0,.int .i64 0,.int .i64 0,.int .i64 0]:Array Value).toList):=(JW w g).trans ((kZ g _ _ _).trans (kZ g _ _ _));have B2:=kY (#[.int .i64 0,.int .i64 0,.int .i64 0,.int .i64 0,.int .i64 0,.int .i64 0,.int .i64 0,.int .i64 0,.int .i64 0,.int .i64 0,.int .i64 0,.int .i64 0,.int .i64 0,.slice none 0 0,.bool false,.int .i64 0,.int .i64 0,.int .i64 0,.int .i64 0,.int .i64 0,.int .i64 0,.int .i64 0,.int .i64 0]:Array Value).toList ((i+(n-(i+1)))*23) B1;have hl2:(#[.int .i64 0,.int .i64 0,.int .i64 0,.int .i64 0,.int .i64 0,.int .i64 0,.int .i64 0,.int .i64 0,.int .i64 0,.int .i64 0,.int .i64 0,.int .i64 0,.int .i64 0,.slice none 0 0,.bool false,.int .i64 0,.int .i64 0,.int .i64 0,.int .i64 0,.int .i64 0,.int .i64 0,.int .i64 0,.int .i64 0]:Array Value).toList.length=23:=rfl;have hfin:(dP (dP cur (0+i*23) news) ((i+(n-(i+1)))*23) (#[.int .i64 0,.int .i64 0,.int .i64 0,.int .i64 0,.int .i64 0,.int .i64 0,.int .i64 0,.int .i64 0,.int .i64 0,.int .i64 0,.int .i64 0,.int .i64 0,.int .i64 0,.slice none 0 0,.bool false,.int .i64 0,.int .i64 0,.int .i64 0,.int .i64 0,.int .i64 0,.int .i64 0,.int .i64 0,.int .i64 0]:Array Value).toList).toList.take ((n-1)*23)=xs.take (i*23)++news:=by
  rw[jr _ _ _ (by rw[hs1,hl2];omega),jr _ _ _ (by rw[hlen,hsz];omega)];have e1:(n-1)*23=(i+(n-(i+1)))*23:=by congr 1;omega
  have a1:(cur.toList.take (0+i*23)).length=i*23:=by simp[hsz];omega
  rw[e1,gq,Bp (by simp[hlen,hsz];omega),yO,Nat.min_self];rw[Bp (by simp[hlen,hsz];omega),jE (by simp[hlen,hsz];omega)]
  congr 1
  rw[<-htk,yO,fq,LH Y]
 have HF:Hid (((w.drew.setCells g (0+i*23) news).setCells g ((i+(n-(i+1)))*23) (#[.int .i64 0,.int .i64 0,.int .i64 0,.int .i64 0,.int .i64 0,.int .i64 0,.int .i64 0,.int .i64 0,.int .i64 0,.int .i64 0,.int .i64 0,.int .i64 0,.int .i64 0,.slice none 0 0,.bool false,.int .i64 0,.int .i64 0,.int .i64 0,.int .i64 0,.int .i64 0,.int .i64 0,.int .i64 0,.int .i64 0]:Array Value).toList).ownsRow base 113 23 (.slice (some ⟨g,0,none⟩) (n-1) c) (n-1) (xs.take (i*23)++news)):=by
  refine⟨by rw[aY,dV,hlen,hxl];omega,.inr ⟨g,c,_,E,hg,B2.Pj,by omega,hcm,by rw[qj,hs1],hfin⟩⟩
 rw[<-hnews];have HU:=Lib.hid U;clear hnews hlen hcx B0 B1 B2 hs1 hfin U hl2 hh hsz htk hxl h1 hg Wt Wv hzv;have hic:i<=c:=Y;have hjc:i+1<=c:=Y;have t1:((i:Int)==(i:Int)+1)=false:=by rw[Bh];omega
 have t2:0<=(i:Int)+1:=Y;have t3:(i:Int)+1<=(n:Int):=Y;obtain⟨W1,hW⟩:∃W1,Hid (W1=w.drew.setCells g (0+i*23) news):=⟨_,Lib.hid E⟩;rw[<-hW.out]at hcl HF HU;generalize hZ:(#[.int .i64 0,.int .i64 0,.int .i64 0,.int .i64 0,.int .i64 0,.int .i64 0,.int .i64 0,.int .i64 0,.int .i64 0,.int .i64 0,.int .i64 0,.int .i64 0,.int .i64 0,.slice none 0 0,.bool false,.int .i64 0,.int .i64 0,.int .i64 0,.int .i64 0,.int .i64 0,.int .i64 0,.int .i64 0,.int .i64 0]:Array Value).toList=zs at hcl HF HU;clear hZ;have hcl:=hcl.out
 go_enter func43,Tryz.ntmps43
 go_wp2_with fail
 go_region_law (refine step_append_room E (.tmp 22) (.tmp 25) 81 E 113 j0 23 Tryz.underlying81 hj0 Wu g 0 i c (by simp[Act.eval,Act.put]) A (n-(i+1)) (c-(i+1)) news (by simp[Act.eval,Act.put]) s1.out hsrc.out s2.out Y s3.out ?_;rw[<-hW.out])
 go_wp2_with fail
 go_ret
 refine⟨?_,HU.out,HF.out⟩;simp;omega
section
open ChangeAt
section
variable {P:Program}{N:Nat}{l:QF}{w w' w0:World}{B:Nat}{fs fs':List Nf}{ops:Array Oper}{o:Oper}{rest:List Oper}{Q:Exit->Act->World->Prop}{v:Value}{l':QF}
def uN:List Value->Nat->List Value->List Value
 |xs,_,[]=>xs
 |xs,k,v::vs=>uN (xs.set k v) (k+1) vs
def KI:∀(vs:List Value) (h:Array Value) (k:Nat),(dP h k vs).toList=uN h.toList k vs
 |[],_,_=>rfl
 |v::vs,h,k=>by rw[dP,uN,KI vs,Array.toList_setIfInBounds]
def Ri(m:Nat):∀(vs xs:List Value) (k:Nat),(uN xs k vs).take m=uN (xs.take m) k vs
 |[],_,_=>rfl
 |v::vs,xs,k=>by rw[uN,uN,Ri m vs,take_set]
def KJ:∀(vs xs:List Value) (k:Nat),(uN xs k vs).length=xs.length
 |[],_,_=>rfl
 |v::vs,xs,k=>by rw[uN,KJ vs,length_set]
def anS{e:TypeId}{s g n c k:Nat}{xs:List Value}(h:w.ownsRow B e s (.slice (some ⟨g,0,none⟩) n c) n xs)(cs:List Value):(w.setCells g k cs).ownsRow B e s (.slice (some ⟨g,0,none⟩) n c) n (uN xs k cs):=by
 obtain⟨O,h|⟨g',cap,I,hv,Z,hh,hn,hc,J,ht⟩⟩:=h
 ·exact av h.1 iQ
 injection hv with h1 h2 h3
 injection h1 with h1
 injection h1 with h1 h4 h5
 subst h1;subst h3;have hb:iq w g I e:=⟨hh⟩;have M:=kY cs k hb;refine⟨by rw[KJ];exact O,.inr ⟨g,c,dP I k cs,E,Z,M.Pj,hn,hc,by rw[qj];exact J,?_⟩⟩;rw[KI,Ri,ht]
def St.aun{e:TypeId}{s g n c k:Nat}{xs:List Value}(i:Nat)(S:St B w0 w fs)(hi:fs[i]? =some (.own e s (.slice (some ⟨g,0,none⟩) n c) n xs))(cs:List Value):St B w0 (w.setCells g k cs) (fs.set i (.own e s (.slice (some ⟨g,0,none⟩) n c) n (uN xs k cs))):=
 St.ahc i S hi (kZ g cs k w) (anS (S.own i hi) cs)
def St.ajm{e:TypeId}{s g n c k m:Nat}{xs:List Value}(i:Nat)(S:St B w0 w fs)(hi:fs[i]? =some (.own e s (.slice (some ⟨g,0,none⟩) n c) n xs))(hk:k+m<=n*s):w.there g k m:=λj hj=>by
 obtain⟨hl,h|⟨g',cap,I,hv,hg,Z,hn,hc,J,ht⟩⟩:=S.own i hi
 ·exact av h.1 iQ
 injection hv with h1 h2 h3
 injection h1 with h1
 injection h1 with h1 h4 h5
 subst h1;subst h3;have hle:n*s<=c*s:=Bd s hn;have M:k+j<I.size:=by rw[J];omega
 have O:iq w g I e:=⟨Z⟩;exact⟨by rw[O.cell (k:=k+j) (yL M)];rfl,O.free _⟩
def mZ{ty e:TypeId}{x y:Operand}{s g n c k m:Nat}{cs:Array Value}{xs xs':List Value}(i:Nat)(S:St B w0 w fs)(hw:QJ N ops l o true)(J:o.dst=none)(M:o.op=.store ty x y)(O:ev l x=some (.pointer (some ⟨g,k,none⟩)))(Z:ev l y=some v)
  (hi:fs[i]? =some (.own e s (.slice (some ⟨g,0,none⟩) n c) n xs)) (hv:v.cells=cs) (hz:(P.info? ty).map (·.size)=some m) (hm:cs.size=m) (h1:∀u∈cs.toList,u.oneCell'=true) (hk:k+m<=n*s) (I:uN xs k cs.toList=xs')
  (h:∀w',St B w0 w' (fs.set i (.own e s (.slice (some ⟨g,0,none⟩) n c) n xs'))->wL P N ops Q rest l w'):wL P N ops Q (o::rest) l w:=by
 subst I;exact QX hw J (Tt M O Z (Tw hv hz hm h1 (S.ajm i hi hk))) (h _ (S.aun i hi cs.toList))
def Hf{ty t:TypeId}{x y:Operand}{b k:Nat}{u:Value}{row row':Array Value}(i:Nat)(S:St B w0 w fs)(hw:QJ N ops l o true)(J:o.dst=none)(M:o.op=.store ty x y)(O:ev l x=some (.pointer (some ⟨b,k,none⟩)))(Z:ev l y=some v)
  (hi:fs[i]? =some (.Pj b row t)) (hv:v.cells= #[u]) (hz:(P.info? ty).map (·.size)=some 1) (h1:u.oneCell'=true) (hk:k<row.size) (I:row.setIfInBounds k u=row')
  (h:∀w',St B w0 w' (fs.set i (.Pj b row' t))->wL P N ops Q rest l w'):wL P N ops Q (o::rest) l w:=by
 refine Jb i S hw J M O Z hi hv hz E (by simpa using h1) Y (row':=row') ?_ E h;subst I;rfl
def ajn{c:Code}(h:wC P N c (Exit.noGoto Q) l w):wC P N (.scope c) Q l w:=λa F=>wp_scope_straight (h a F)
def uf(h:wQ N Q .ret l w):wQ N (Exit.noGoto Q) .ret l w:=h
def sI(f:Nat->Bool)(m:Nat):Array Value:=((range m).map λj=>Value.bool (f j)).toArray
def aaY(f:Nat->Bool)(m:Nat):(sI f m).size=m:=by simp[sI]
def aeF(f:Nat->Bool){m j:Nat}(h:j<m):(sI f m)[j]? =some (.bool (f j)):=by simp[sI,h]
def aeG(f:Nat->Bool){m j:Nat}:(sI f m).setIfInBounds j (.bool true)=sI (λi=>decide (i=j) || f i) m:=by
 apply Array.ext
 ·simp[sI]
 intro i h1 M;rw[Array.getElem_setIfInBounds (by simpa using h1)];by_cases I:j=i
 ·subst I;simp[sI]
 rw[ah I];have J:¬i=j:=λh=>I h.symm;simp[sI,J]
def aaZ(m:Nat):madeCells (Value.bool false).cells (m*1)=sI (λ_=>false) m:=by
 apply acL;intro i;by_cases hi:i<m
 ·simp[madeCells,sI,hi,Value.cells,mod_one]
 simp[madeCells,sI,hi]
def Np(P:Program)(c:Code)(Q:Exit->Act->World->Prop)(a:Act)(w:World):Prop:= ∀(b:Frame) (k:List Item) (cs:List Frame),∃e a' w',Q e a' w'/\Arrives P (lone (b.at a (.code c:: .inLoop c::k)) cs w) b k cs e a' w'
def wI(P:Program)(N:Nat)(c:Code)(Q:Exit->Act->World->Prop)(l:QF)(w:World):Prop:= ∀a,Fr N l a->Np P c Q a w
def Rj{c:Code}(h:wI P N c Q l w):wC P N (.loop c) Q l w:=by
 intro a F b k cs;obtain⟨e,J,w',M,I⟩:=h a F b k cs;exact⟨e,J,w',M,.of_steps (.one step_loop) I⟩
def pF{c:Code}(h:wC P N c (Exit.then (Np P c Q) Q) l w):wI P N c Q l w:=by
 intro a F b k cs;obtain⟨e,O,Z,M,I⟩:=h a F b (.inLoop c::k) cs
 cases e with
 |normal=>
  obtain⟨e₂,a₂,w₂,hq₂,J⟩:=M b k cs;exact⟨e₂,a₂,w₂,hq₂,.of_steps (Steps.trans I (.one step_inLoop)) J⟩
 |exit id=>exact⟨_,O,Z,M,.pass (x:=.inLoop c) E (λ_ _=>.inl iQ) I⟩
 |goto l=>exact⟨_,O,Z,M,.pass (x:=.inLoop c) E (λ_ _=>.inl iQ) I⟩
 |ret=>exact⟨_,O,Z,M,.pass (x:=.inLoop c) E (λ_ _=>.inl iQ) I⟩
 |panic ch=>exact⟨_,O,Z,M,.pass (x:=.inLoop c) E (λ_ _=>.inl iQ) I⟩
 |outgrown=>exact⟨_,O,Z,M,.pass (x:=.inLoop c) E (λ_ _=>.inl iQ) I⟩
def tu{c:Code}(h:wI P N c Q l w):wQ N (Exit.then (Np P c Q) Q) .normal l w:=h
end
def rW:Char:=Char.ofNat 32
def X8(b:List Char):wordsSigns (rW::b)=[]::wordsSigns b:=rfl
def BL:∀(a b:List Char),a.all (λc=> !(c==rW))=true->wordsSigns (a++rW::b)=a::wordsSigns b
 |[],b,_=>X8 b
 |c::a,b,h=>by
  simp only[all_cons,Bool.and_eq_true,Bool.not_eq_true',beq_eq_false_iff_ne]at h;have I:=BL a b h.2;rw[wO,wordsSigns,I];intro e;exact h.1 e
def aa0{l:List Char}(h1:l.take 8= "harness".toList++[rW])(h:((l.drop 8).take 64).all (λc=> !(c==rW))=true)(J:(l.drop 72).take 5=[rW]++("cut".toList++[rW])):
 ∃s rest,s=(l.drop 8).take 64/\wordsSigns l= "harness".toList::s:: "cut".toList::rest:=by
 refine⟨_,wordsSigns (l.drop 77),E,?_⟩;generalize hs:(l.drop 8).take 64=s at h;have I:l= "harness".toList++rW::(s++rW::("cut".toList++rW::l.drop 77)):=by
  have a1:l.take 8++l.drop 8=l:=yN 8 l;have a2:(l.drop 8).take 64++(l.drop 8).drop 64=l.drop 8:=yN 64 _;have a3:(l.drop 72).take 5++(l.drop 72).drop 5=l.drop 72:=yN 5 _;rw[lT]at a2 a3;rw[J]at a3;rw[h1]at a1;rw[hs]at a2
  calc l=_:=a1.symm
   _=_:=by rw[<-a2,show 8+64=72 from E,<-a3];simp
 generalize l.drop 77=r at I;rw[I,BL _ _ dQ,BL _ _ h,BL _ _ dQ]
def Rl(rest:List (List Char)):stripLifts liftWords ("cut".toList::rest)=([], "cut".toList::rest):=by
 unfold liftWords
 repeat (rw[stripLifts,ah dQ])
 rw[stripLifts]
section
variable {P:Program}{s:List Char}{rest:List (List Char)}(hw:wordsSigns P.initOrder.toList= "harness".toList::s:: "cut".toList::rest)(hs:isSumSigns s=true)
include hw hs
def BM:behindMainWord (wordsSigns P.initOrder.toList)= "cut".toList::rest:=by
 rw[hw,behindMainWord,aj (by rw[hs];decide)]
def ag4(h1:P.laysLater=false)(h:P.bearsReflect=false)(I:P.doorFits []=true):P.mayEnter=true:=by
 unfold Program.mayEnter;rw[BM hw hs];simp only;rw[Rl];simp only[h1,h];rw[I];simp
def adG:P.headLifts=[]:=by
 unfold Program.headLifts;rw[BM hw hs,Rl];rfl
def acU:P.liftsFinal=false:=by
 unfold Program.liftsFinal;rw[adG hw hs,BM hw hs];simp only[head?_cons];rw[show(some "cut".toList==some "carried".toList)=false by decide]
 rfl
def ajo:P.make=some .cut:=by
 unfold Program.make;rw[BM hw hs];simp only;rw[ah dQ,aj (by rw[show("cut".toList== "cut".toList)=true by decide];rfl)]
end
def ajp{P:Program}{s t:List Char}{rest:List (List Char)}(hw:wordsSigns P.initOrder.toList= "harness".toList::s::rest)(hs:isSumSigns s=true)(e:s=t):P.mainIs=some (true,t):=by
 subst e;unfold Program.mainIs;rw[hw];simp[hs]
def TR(P:Program)(f:FuncId)(fn:Func)(s:ChangeSpec)(c:OpenClaim):Bool:=
 c.wf (OpenSpec.ofChange s)&&laidOutB P&&mapsRowed P&&
 fn.params.all (P.readableRec ·)&&namedTie P c.named s.vars&&
 (c.stops==[])&&(P.stops==[])&&(c.knobs==[])&&(P.stopKnobs==[])&&
 (c.inPlace==P.inPlace f)&&(c.unfollowed==P.unfollowed f)&&(c.recurses==P.recurses f)&&(c.named==P.varsNamed f)&&
 (c.maps==(fn.params.toList++s.plain.varTypes P).any (P.mapsRec ·))&&(c.ifaces==(fn.params.toList++s.plain.varTypes P).any (P.ifacesRec ·))&&(c.mapsOut==P.mapsAmong fn.resultTypes.toList)&&
 (c.loops==(fn.params.toList++s.plain.varTypes P).any (P.loopsFrom ·))&&(c.wideKeys==(fn.params.toList++s.plain.varTypes P++fn.resultTypes.toList).any (P.wideKeysFrom ·))&&
 s.vars.all (P.varReadable ·)&&fn.resultTypes.all (λt=>P.readableRec t&&decide (t<P.types.size))&&(c.ifacesOut==fn.resultTypes.toList.any (P.ifacesRec ·))&&(c.loopsOut==fn.resultTypes.toList.any (P.loopsFrom ·))&&(c.plainKeys==P.plainKeys)&&c.shortTexts.isNone&&P.stopsHeard
def aeH{P:Program}{f:FuncId}{fn:Func}{s:ChangeSpec}{c:OpenClaim}(h:TR P f fn s c=true)(h1:P.mayEnter=true)(I:(c.lifted==P.liftsFinal)=true)(J:(P.make==some c.make)=true)
  (M:((c.kinds==(if c.domain.isEmpty then[]else fn.params.toList.map λt=>match P.underlying t with|some (.int k)=>some k|_=>none))&&(c.pinned==c.pinnedBy)&&
   (c.veiled==(fn.params.toList++s.plain.varTypes P++fn.resultTypes.toList).any (P.veiledRec ·))&&c.veiledFits P fn.params.toList (fn.params.toList++s.plain.varTypes P++fn.resultTypes.toList))=true):joinedFacts P f fn s c=true:=by
 have e:joinedFacts P f fn s c=(TR P f fn s c&&P.mayEnter&&(c.lifted==P.liftsFinal)&&(P.make==some c.make)&&(c.kinds==(if c.domain.isEmpty then[]else fn.params.toList.map λt=>match P.underlying t with|some (.int k)=>some k|_=>none))&&(c.pinned==c.pinnedBy)&&
   (c.veiled==(fn.params.toList++s.plain.varTypes P++fn.resultTypes.toList).any (P.veiledRec ·))&&c.veiledFits P fn.params.toList (fn.params.toList++s.plain.varTypes P++fn.resultTypes.toList)):=rfl
 rw[e,h,h1,I,J];simpa using M
def aeI:∃l:List Char,prog.initOrder.toList=l/\l.take 8= "harness".toList++[rW]/\((l.drop 8).take 64).all (λc=> !(c==rW))=true/\(l.drop 72).take 5=[rW]++("cut".toList++[rW])/\isSumSigns ((l.drop 8).take 64)=true/\(l.drop 8).take 64= "b83a808ba70fb94aaaa570f0ee70aa9ca77621014c4a241806917e3ac02b7e46".toList:=by
 rw[show prog.initOrder=tables.initOrder by kernel_rfl];unfold tables;simp only[];exact⟨_,String.toList_ofList,by kernel_rfl,by kernel_rfl,by kernel_rfl,by kernel_rfl,by kernel_rfl⟩
def Ep:∃s rest,wordsSigns prog.initOrder.toList= "harness".toList::s:: "cut".toList::rest/\isSumSigns s=true/\s= "b83a808ba70fb94aaaa570f0ee70aa9ca77621014c4a241806917e3ac02b7e46".toList:=by
 obtain⟨l,e,h1,h,I,J,M⟩:=aeI;obtain⟨s,rest,es,hw⟩:=aa0 h1 h I;subst es;exact⟨_,rest,by rw[e];exact hw,J,M⟩
def aa1:prog.laysLater=false:=kQ
def ahL:prog.bearsReflect=false:=kQ
def aa2:prog.doorFits []=true:=kQ
def aa3:prog.mayEnter=true:=by
 obtain⟨s,rest,hw,hs,_⟩:=Ep;exact ag4 hw hs aa1 ahL aa2
def aa4:(false==prog.liftsFinal)=true:=by
 obtain⟨s,rest,hw,hs,_⟩:=Ep;rw[acU hw hs];rfl
def aeJ:(prog.make==some .cut)=true:=by
 obtain⟨s,rest,hw,hs,_⟩:=Ep;rw[ajo hw hs]
 decide
def aeK:prog.mainIs=some (true, "b83a808ba70fb94aaaa570f0ee70aa9ca77621014c4a241806917e3ac02b7e46".toList):=by
 obtain⟨s,rest,hw,hs,e⟩:=Ep;exact ajp hw hs e
def aa5:true=Tryz.pinned.checked.prog.looks []:=kQ
end
end Go.Proofs.YtceeleolddkibaaGreatDoor
