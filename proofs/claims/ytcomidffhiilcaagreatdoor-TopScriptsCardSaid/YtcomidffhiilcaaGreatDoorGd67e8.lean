import Derived.Laws.BitsAllLaws
import Derived.Shelf.Strings.Builder1
import Derived.Shelf.LaysM
import Derived.Shelf.Strconv.Itoa3
import Derived.Shelf.Strings.Search1
import Derived.Shelf.Small.Strs
import Derived.Shelf.Strings.Prefix
import Derived.Shelf.Strings.SplitShaped
import Derived.Shelf.Strconv.AtoiAll
import Derived.Shelf.LaysC
import Derived.Test.YtcomidffhiilcaaGreatDoorCards
import Derived.Test.YtcomidffhiilcaaGreatDoorGb122e
set_option maxRecDepth 100000
set_option maxHeartbeats 8000000
set_option linter.unusedSimpArgs false
set_option linter.unusedVariables false
namespace Go.Proofs.YtcomidffhiilcaaGreatDoor
section
open ChangeShapes WideShapes RowKit
abbrev fA (s f k:Nat):Prop:= ∀ (b o:Nat) (w:World),(Instr.fieldAt s (.pointer (some ⟨b,o,none⟩)) f).run tP w= .ok (.pointer (some ⟨b,o+k,none⟩)) w
abbrev iF (t k:Nat):Prop:=(tP.info? t).map (·.size)=some k
abbrev iZ (t:Nat) (z:Value) (s b:Nat):Prop:=(tP.info? t).map (λi=>(i.zero,i.size,i.bytes))=some (some z,s,b)
abbrev eN (f:FuncId):Prop:= ∀ (args:Array Value) (w:World),(callFunc f args).run tP w= .ok (.enter f args) w
theorem apU:iF 3 1:=kQ
theorem alg:iF 4 1:=kQ
theorem awz:iF 5 1:=kQ
theorem as8:iF 22 1:=kQ
theorem as9:iF 23 1:=kQ
theorem ata:iF 24 1:=kQ
theorem atb:iF 31 2:=kQ
theorem amY:fA 31 0 0:=fQ
theorem amZ:fA 31 1 1:=fQ
theorem Lf:iF 32 2:=kQ
theorem am0:fA 32 0 0:=fQ
theorem am1:fA 32 1 1:=fQ
theorem atc:iF 35 8:=kQ
theorem atd:iF 36 1:=kQ
theorem ate:iF 37 1:=kQ
theorem atf:iF 38 1:=kQ
theorem atg:iF 39 18:=kQ
theorem am2:fA 39 0 0:=fQ
theorem am3:fA 39 1 1:=fQ
theorem am4:fA 39 2 6:=fQ
theorem am5:fA 39 3 14:=fQ
theorem am6:fA 39 4 15:=fQ
theorem ath:iF 40 18:=kQ
theorem am7:fA 40 0 0:=fQ
theorem am8:fA 40 1 1:=fQ
theorem am9:fA 40 2 6:=fQ
theorem ana:fA 40 3 14:=fQ
theorem anb:fA 40 4 15:=fQ
theorem anc:fA 40 5 16:=fQ
theorem ane:fA 40 6 17:=fQ
theorem ati:iF 192 1:=kQ
theorem ajS:iF 121 1:=kQ
theorem wm:iF 150 6:=kQ
theorem anf:iZ 150 (.agg #[iV 0,iV 0,iV 0,iV 0,iV 0,.slice none 0 0]) 6 64:=kQ
theorem aci:fA 150 0 0:=fQ
theorem ang:fA 150 1 1:=fQ
theorem anh:fA 150 2 2:=fQ
theorem ani:fA 150 3 3:=fQ
theorem anj:fA 150 4 4:=fQ
theorem acj:fA 150 5 5:=fQ
theorem atj:iF 74 1:=kQ
theorem acn:iZ 74 (.slice none 0 0) 1 24:=kQ
theorem atl:iF 217 1:=kQ
theorem atm:iF 218 1:=kQ
theorem ajT:iF 221 9:=kQ
theorem atn:iF 222 36:=kQ
theorem ato:iF 224 41:=kQ
theorem ank:fA 224 0 0:=fQ
theorem anl:fA 224 1 1:=fQ
theorem anm:fA 224 2 2:=fQ
theorem ano:fA 224 3 3:=fQ
theorem anp:fA 224 4 4:=fQ
theorem anq:fA 224 5 5:=fQ
theorem atp:iF 44 2:=kQ
theorem anr:fA 44 0 0:=fQ
theorem ant:fA 44 1 1:=fQ
theorem Al:iF 46 6:=kQ
theorem qw:iZ 46 (.agg #[iV 0,iV 0,iV 0,iV 0,iV 0,iV 0]) 6 48:=kQ
theorem anu:fA 46 0 0:=fQ
theorem anv:fA 46 1 1:=fQ
theorem anw:fA 46 2 2:=fQ
theorem anx:fA 46 3 3:=fQ
theorem anz:fA 46 4 4:=fQ
theorem tY:iF 53 11:=kQ
theorem aco:iZ 53 (.agg #[iV 0,iV 0,iV 0,iV 0,iV 0,iV 0,iV 0,iV 0,iV 0,iV 0,iV 0]) 11 88:=kQ
theorem anA:fA 53 0 0:=fQ
theorem anB:fA 53 1 1:=fQ
theorem anC:fA 53 2 2:=fQ
theorem anD:fA 53 3 3:=fQ
theorem anE:fA 53 4 4:=fQ
theorem anF:fA 53 5 5:=fQ
theorem atq:iF 48 4:=kQ
theorem anG:iZ 48 (.agg #[iV 0,iV 0,iV 0,iV 0]) 4 32:=kQ
theorem atr:iF 122 7:=kQ
theorem anH:fA 122 0 0:=fQ
theorem anI:fA 122 1 1:=fQ
theorem att:iF 123 7:=kQ
theorem anJ:iZ 123 (.agg #[iV 0,iV 0,iV 0,iV 0,iV 0,iV 0,iV 0]) 7 56:=kQ
theorem anK:fA 123 2 5:=fQ
theorem anL:iZ 50 (.agg #[iV 0,iV 0,iV 0,iV 0,iV 0,iV 0,iV 0,iV 0,iV 0,iV 0,iV 0,iV 0,iV 0,iV 0]) 14 112:=kQ
theorem ajU:iF 273 2:=kQ
theorem TM:iZ 273 (.agg #[iV 0,iV 0]) 2 16:=kQ
theorem anM:fA 273 0 0:=fQ
theorem anN:fA 273 1 1:=fQ
theorem atu:iF 276 4:=kQ
theorem acp:iZ 276 (.agg #[iV 0,iV 0,iV 0,iV 0]) 4 32:=kQ
theorem anO:fA 276 0 0:=fQ
theorem anP:fA 276 1 2:=fQ
theorem anQ:iF 55 5:=kQ
theorem ahp:fA 55 0 0:=fQ
theorem ahq:fA 55 1 1:=fQ
theorem ahr:fA 55 2 2:=fQ
theorem ahs:fA 55 3 3:=fQ
theorem aht:fA 55 4 4:=fQ
theorem anR:iF 56 5:=kQ
theorem Xp:fA 56 0 0:=fQ
theorem Om:fA 56 1 1:=fQ
theorem Xq:fA 56 2 2:=fQ
theorem Am:fA 56 3 3:=fQ
theorem Oo:fA 56 4 4:=fQ
theorem anS:iF 96 1:=kQ
theorem anT:iF 97 1:=kQ
theorem TN:iF 99 2:=kQ
theorem ahu:fA 99 0 0:=fQ
theorem ahv:fA 99 1 1:=fQ
theorem anU:iF 100 8:=kQ
theorem ahw:fA 103 0 0:=fQ
theorem ahx:fA 103 1 1:=fQ
theorem ahy:fA 103 2 9:=fQ
theorem ahz:fA 103 3 10:=fQ
theorem ahA:fA 103 4 50:=fQ
theorem anV:iF 104 1:=kQ
theorem Dw:iZ 104 (.pointer none) 1 8:=kQ
theorem anW:iF 106 2:=kQ
theorem Xr:fA 106 0 0:=fQ
theorem ahB:fA 106 1 1:=fQ
theorem anX:iF 107 4:=kQ
theorem anY:iF 108 1:=kQ
theorem anZ:iF 110 20:=kQ
theorem ahC:fA 110 0 0:=fQ
theorem ahD:fA 110 1 1:=fQ
theorem ahE:fA 110 2 2:=fQ
theorem ahF:fA 110 3 4:=fQ
theorem ahG:fA 110 4 5:=fQ
theorem ahH:fA 110 5 13:=fQ
theorem ahI:fA 110 6 17:=fQ
theorem ahJ:fA 110 7 18:=fQ
theorem ahK:fA 110 8 19:=fQ
theorem an0:iF 194 1:=kQ
theorem an1:iF 240 42:=kQ
theorem ahL:fA 240 0 0:=fQ
theorem ahM:fA 240 1 41:=fQ
theorem an2:iF 269 41:=kQ
theorem ahN:fA 269 0 0:=fQ
theorem ahO:fA 270 0 0:=fQ
theorem an3:iF 78 4:=kQ
theorem Xt:fA 78 0 0:=fQ
theorem Ao:fA 78 1 1:=fQ
theorem Ap:fA 78 2 2:=fQ
theorem Ia:fA 78 3 3:=fQ
theorem an4:iF 83 1:=kQ
theorem an5:iF 85 2:=kQ
theorem ahP:fA 85 0 0:=fQ
theorem ahQ:fA 85 1 1:=fQ
theorem an6:iF 125 23:=kQ
theorem Xu:iZ 125 (.agg #[iV 0,iV 0,iV 0,iV 0,iV 0,iV 0,iV 0,iV 0,iV 0,iV 0,iV 0,iV 0,iV 0,.slice none 0 0,.bool false,iV 0,iV 0,iV 0,iV 0,iV 0,iV 0,iV 0,iV 0]) 23 200:=kQ
theorem ahR:fA 125 0 0:=fQ
theorem ahS:fA 125 1 1:=fQ
theorem ahT:fA 125 2 2:=fQ
theorem ahU:fA 125 3 3:=fQ
theorem ahV:fA 125 4 4:=fQ
theorem ahW:fA 125 5 5:=fQ
theorem ahX:fA 125 6 6:=fQ
theorem ahY:fA 125 7 7:=fQ
theorem ahZ:fA 125 8 13:=fQ
theorem ah0:fA 125 9 14:=fQ
theorem adP:fA 125 10 15:=fQ
theorem adQ:fA 125 11 16:=fQ
theorem an7:iF 155 10:=kQ
theorem Oq:iZ 155 (.agg #[iV 0,iV 0,iV 0,iV 0,iV 0,iV 0,iV 0,iV 0,iV 0,iV 0]) 10 80:=kQ
theorem ah1:fA 155 0 0:=fQ
theorem ah2:fA 155 1 1:=fQ
theorem ah3:fA 155 2 2:=fQ
theorem ah4:fA 155 3 3:=fQ
theorem ah5:fA 155 4 4:=fQ
theorem an8:iF 231 1:=kQ
theorem Qg:eN 16:=eQ
theorem AZ:eN 30:=eQ
theorem awC:eN 17:=eQ
theorem mixed:tP.follows .mixedOrders=true:=kQ
end
section
open Go.Shelf Go.RowKit Go.Sort Go.Lib
def QB:Go.Shelf.Ren:=⟨λ| 169=>12 | n=>n,λ| 70=>57 | 9=>9 | 0=>0 | 72=>60 | 37=>58 | 127=>87 | 3=>3 | 5=>5 | n=>n,λ| n=>n⟩
theorem ah6:Go.Proofs.Lays.n169 Tryz.prog QB:={
 mixed:=by kernel_rfl
 f169:=Tryz.func12.trans (congrArg some (by kernel_rfl))
 t0:=Tryz.underlying0
 a0:=Tryz.isAgg0
 z0:=Tryz.sizeOf0
 v0:=Tryz.zeroValue0
 t3:=Tryz.underlying3
 a3:=Tryz.isAgg3
 z3:=Tryz.sizeOf3
 v3:=Tryz.zeroValue3
 t9:=Tryz.underlying9
 a9:=Tryz.isAgg9
 z9:=Tryz.sizeOf9
 v9:=Tryz.zeroValue9
 t37:=Tryz.underlying58
 a37:=Tryz.isAgg58
 z37:=Tryz.sizeOf58
 v37:=Tryz.zeroValue58
 t70:=Tryz.underlying57
 a70:=Tryz.isAgg57
 z70:=Tryz.sizeOf57
 v70:=Tryz.zeroValue57
 t72:=Tryz.underlying60
 a72:=Tryz.isAgg60
 z72:=Tryz.sizeOf60
 v72:=Tryz.zeroValue60
 t127:=Tryz.underlying87
 a127:=Tryz.isAgg87
 z127:=Tryz.sizeOf87
 v127:=Tryz.zeroValue87 }
theorem wo:Builder.Extra Tryz.prog QB:={
 sizeBuilder:=by kernel_rfl
 liesBuilder:=by kernel_rfl
 t5:=Tryz.underlying5
 a5:=Tryz.isAgg5
 z5:=Tryz.sizeOf5
 v5:=Tryz.zeroValue5
 infoByte:=by kernel_rfl
 cellsByte:=by kernel_rfl
 sizeByte:=by kernel_rfl
 neB5:=by decide }
theorem Yz (B b:Nat) (l:List UInt8) (w:World) (h:Lib.IsBuilder 60 5 B b (Lib.byteCells l) w) (hBw:B<=w.heap.size):
  Calls Tryz.prog 12 #[.pointer (some ⟨b,0,none⟩)] w λe w'=>e= .returned (.string ⟨l.toArray⟩)/\Below B w w':=Any.Builder_String_any ah6 wo B b l w h hBw
def YA:Go.Shelf.Ren:=⟨λ| 171=>20 | 243=>33 | 246=>52 | 283=>82 | 284=>83 | 285=>84 | 286=>85 | 129=>114 | 317=>113 | 318=>115 | 319=>116 | 320=>117 | 337=>153 | 338=>154 | n=>n,λ| 3=>3 | 9=>9 | 2=>2 | 4=>4 | 171=>173 | 0=>0 | 53=>174 | 37=>58 | 5=>5 | 173=>177 | 212=>208 | 51=>209 | 20=>20 | 213=>210 | 46=>184 | 232=>263 | 233=>264 | n=>n,λ| 17=>5 | 18=>8 | 19=>9 | n=>n⟩
theorem adR:Go.Proofs.LaysM.n171 Tryz.prog YA:={
 mixed:=by kernel_rfl
 f129:=Tryz.func114.trans (congrArg some (by kernel_rfl))
 f171:=Tryz.func20.trans (congrArg some (by kernel_rfl))
 f243:=Tryz.func33.trans (congrArg some (by kernel_rfl))
 f246:=Tryz.func52.trans (congrArg some (by kernel_rfl))
 f283:=Tryz.func82.trans (congrArg some (by kernel_rfl))
 f284:=Tryz.func83.trans (congrArg some (by kernel_rfl))
 f285:=Tryz.func84.trans (congrArg some (by kernel_rfl))
 f286:=Tryz.func85.trans (congrArg some (by kernel_rfl))
 f317:=Tryz.func113.trans (congrArg some (by kernel_rfl))
 f318:=Tryz.func115.trans (congrArg some (by kernel_rfl))
 f319:=Tryz.func116.trans (congrArg some (by kernel_rfl))
 f320:=Tryz.func117.trans (congrArg some (by kernel_rfl))
 f337:=Tryz.func153.trans (congrArg some (by kernel_rfl))
 f338:=Tryz.func154.trans (congrArg some (by kernel_rfl))
 t0:=Tryz.underlying0
 a0:=Tryz.isAgg0
 z0:=Tryz.sizeOf0
 v0:=Tryz.zeroValue0
 t2:=Tryz.underlying2
 a2:=Tryz.isAgg2
 z2:=Tryz.sizeOf2
 v2:=Tryz.zeroValue2
 t3:=Tryz.underlying3
 a3:=Tryz.isAgg3
 z3:=Tryz.sizeOf3
 v3:=Tryz.zeroValue3
 t4:=Tryz.underlying4
 a4:=Tryz.isAgg4
 z4:=Tryz.sizeOf4
 v4:=Tryz.zeroValue4
 t5:=Tryz.underlying5
 a5:=Tryz.isAgg5
 z5:=Tryz.sizeOf5
 v5:=Tryz.zeroValue5
 t9:=Tryz.underlying9
 a9:=Tryz.isAgg9
 z9:=Tryz.sizeOf9
 v9:=Tryz.zeroValue9
 t20:=Tryz.underlying20
 a20:=Tryz.isAgg20
 z20:=Tryz.sizeOf20
 v20:=Tryz.zeroValue20
 t37:=Tryz.underlying58
 a37:=Tryz.isAgg58
 z37:=Tryz.sizeOf58
 v37:=Tryz.zeroValue58
 t46:=Tryz.underlying184
 a46:=Tryz.isAgg184
 z46:=Tryz.sizeOf184
 v46:=Tryz.zeroValue184
 t51:=Tryz.underlying209
 a51:=Tryz.isAgg209
 z51:=Tryz.sizeOf209
 v51:=Tryz.zeroValue209
 t53:=Tryz.underlying174
 a53:=Tryz.isAgg174
 z53:=Tryz.sizeOf174
 v53:=Tryz.zeroValue174
 t171:=Tryz.underlying173
 a171:=Tryz.isAgg173
 z171:=Tryz.sizeOf173
 v171:=Tryz.zeroValue173
 t173:=Tryz.underlying177
 a173:=Tryz.isAgg177
 z173:=Tryz.sizeOf177
 v173:=Tryz.zeroValue177
 t212:=Tryz.underlying208
 a212:=Tryz.isAgg208
 z212:=Tryz.sizeOf208
 v212:=Tryz.zeroValue208
 t213:=Tryz.underlying210
 a213:=Tryz.isAgg210
 z213:=Tryz.sizeOf210
 t232:=Tryz.underlying263
 a232:=Tryz.isAgg263
 z232:=Tryz.sizeOf263
 v232:=Tryz.zeroValue263
 t233:=Tryz.underlying264
 a233:=Tryz.isAgg264
 z233:=Tryz.sizeOf264
 v233:=Tryz.zeroValue264
 g17:=by kernel_rfl
 g18:=by kernel_rfl
 g19:=by kernel_rfl
 i0:=by kernel_rfl
 i2:=by kernel_rfl
 i3:=by kernel_rfl
 i4:=by kernel_rfl
 i5:=by kernel_rfl
 i9:=by kernel_rfl
 i20:=by kernel_rfl
 i37:=by kernel_rfl
 i46:=by kernel_rfl
 i51:=by kernel_rfl
 i53:=by kernel_rfl
 i171:=by kernel_rfl
 i173:=by kernel_rfl
 i212:=by kernel_rfl
 i232:=by kernel_rfl
 i233:=by kernel_rfl
 m17:=by kernel_rfl
 m18:=by kernel_rfl
 m19:=by kernel_rfl }
def afT:String:=Rows.topScriptsRow.named.headD ""
theorem VG (n:Int) (h0: -9223372036854775808<=n) (h1:n<=9223372036854775807) (w:World) (htab:Lib.TabIs Tryz.prog w afT .u64 Lib.pow10Tab):
  Calls Tryz.prog 20 #[.int .i64 n] w λe w'=>e= .returned (.string ⟨(Lib.itoa n).toArray⟩)/\ ∃ k os,w'=grow (w.drewN k) os:=Any.strconv_Itoa adR n h0 h1 w htab
end
section
open Go.ChangeShapes Go.WideShapes Go.RowKit Go.Shelf
theorem KS (b:Nat) (w:World) (h0:w.cell? ⟨b,0,none⟩=some (.pointer (some ⟨b,0,none⟩))):
  Calls Tryz.prog 19 #[.pointer (some ⟨b,0,none⟩)] w λe w'=>e= .returned (.tuple #[])/\w'=w:=by
 obtain ⟨j,hj,_⟩:=Option.map_eq_some_iff.1 wo.sizeBuilder
 go_enter Tryz.func19,Tryz.ntmps19
 go_wp2
 rw [Lib.run_neq_ptr_same w _ Tryz.underlying57 hj]
 go_wp2
 go_end0
 exact ⟨rfl,rfl⟩
theorem I8 (b:Nat) (w:World) (h0:w.cell? ⟨b,0,none⟩=some (.pointer none)) (hsh:w.shape? b=some (60,2)) (hfz:w.frozen? ⟨b,0,none⟩=false):
  Calls Tryz.prog 19 #[.pointer (some ⟨b,0,none⟩)] w λe w'=>e= .returned (.tuple #[])/\w'=w.setCell ⟨b,0,none⟩ (.pointer (some ⟨b,0,none⟩)):=by
 obtain ⟨j,hj,hjs⟩:=Option.map_eq_some_iff.1 wo.sizeBuilder
 go_enter Tryz.func19,Tryz.ntmps19
 go_wp2
 rw [Lib.run_to_unsafe w ⟨b,0,none⟩ Tryz.underlying57 Tryz.underlying114 hj (by rw [hjs];decide) hsh (Nat.zero_lt_succ 1)];simp only [Result.andThen];rw [Oper.upon_value]
 go_wp2
 rw [run_callFunc_extern Tryz.func32 (by kernel_rfl) (by kernel_rfl) (by kernel_rfl) (e:=Extern.AbiNoEscape.same) (by kernel_rfl)];rw [Lib.run_noEscape];simp only [Result.andThen];rw [Oper.upon_value]
 go_wp2
 rw [Lib.run_from_unsafe w ⟨b,0,none⟩ Tryz.underlying114 Tryz.underlying57 hj hsh wo.liesBuilder];simp only [Result.andThen];rw [Oper.upon_value]
 go_wp2
 go_end0
 exact ⟨rfl,rfl⟩
theorem I9 (B b:Nat) (bs:List Value) (w:World) (h:Lib.IsBuilder 60 5 B b bs w):
  Calls Tryz.prog 19 #[.pointer (some ⟨b,0,none⟩)] w λe w'=>e= .returned (.tuple #[])/\(Lib.BuilderAt 60 5 B b (.pointer (some ⟨b,0,none⟩)) bs w'/\Below B w w'):=by
 rcases h with h | h
 ·refine (I8 b w h.cell0 h.shape h.frozen0).mono ?_;rintro e w' ⟨rfl,rfl⟩;exact ⟨rfl,h.used _,(Below.refl B w).setCell (p:=⟨b,0,none⟩) h.1 _⟩
 refine (KS b w h.cell0).mono ?_;rintro e w' ⟨rfl,rfl⟩;exact ⟨rfl,h,Below.refl B _⟩
theorem adS (B b:Nat) (bs:List Value) (s:ByteArray) (w:World) (h:Lib.IsBuilder 60 5 B b bs w) (hlen:bs.length+s.size<=140737488355328) (hBw:B<=w.heap.size):
  Calls Tryz.prog 10 #[.pointer (some ⟨b,0,none⟩),.string s] w λe w'=>e= .returned (.tuple #[.int .i64 s.size,.nilIface])/\(Lib.BuilderAt 60 5 B b (.pointer (some ⟨b,0,none⟩)) (bs++Lib.strCells s) w'/\Below B w w'):=by
 obtain ⟨i0,hi,hz0,hz1,hz2⟩:=info_parts wo.infoByte;have e240: ∀ args w,(callFunc 19 args).run Tryz.prog w= .ok (.enter 19 args) w:=eQ
 go_enter Tryz.func10,Tryz.ntmps10
 go_wp2_with fail
 refine (I9 B b bs _ h).mono ?_;rintro e w1 ⟨rfl,h1,hb1⟩;obtain ⟨hB,v,hbk,hown,hne⟩:=h1;have c0:w1.cell? ⟨b,0,none⟩=some (.pointer (some ⟨b,0,none⟩)):=by rw [Lib.cell_of_heap hbk];rfl
 have c1:w1.cell? ⟨b,1,none⟩=some v:=by rw [Lib.cell_of_heap hbk];rfl
 go_wp2_with (at_builtin;refine Lib.wpList_append_own_string _ rfl _ _ 58 9 rfl B 5 i0 Tryz.underlying58 Tryz.underlying9 hi hz0 hz1 hz2 _ _ _ rfl hown s rfl ?c3 ?c4 ?c5 ?_)
 case c3=>unfold maxLen;omega
 case c4=>omega
 case c5=>have:=hb1.size;omega
 intro v' w2 hown' hgrow _;have hlt:b<w1.heap.size:=by
  rcases Nat.lt_or_ge b w1.heap.size with h' | h'
  ·exact h'
  simp [Array.getElem?_eq_none h'] at hbk
 have hb2:w2.heap[b]? =some (.cells #[.pointer (some ⟨b,0,none⟩),v] 60 (0,0)):=by
  rw [hgrow.block b hlt (λe=>hne e.symm)];exact hbk
 have d0:w2.cell? ⟨b,0,none⟩=some (.pointer (some ⟨b,0,none⟩)):=by rw [Lib.cell_of_heap hb2];rfl
 have d1:w2.cell? ⟨b,1,none⟩=some v:=by rw [Lib.cell_of_heap hb2];rfl
 have f1:w2.frozen? ⟨b,1,none⟩=false:=Lib.frozen_of_heap hb2 1;obtain ⟨ao,n',cap,rfl⟩: ∃ ao n' cap,v'= .slice ao n' cap:=by
  rcases hown'.2 with ⟨hv,_⟩ | ⟨g,cap,cur,hv,_⟩
  ·exact ⟨_,_,_,hv⟩
  exact ⟨_,_,_,hv⟩
 go_wp2_with fail
 go_ret2
 refine ⟨rfl,?_,?_⟩
 ·exact Lib.BuilderAt.put (T:=60) (e:=5) hB hb2 (bs':=bs++Lib.strCells s) (by simpa [Lib.strCells_length] using hown') wo.neB5
 exact (hb1.grown hgrow (by have:=hb1.size;omega) (λk hk=>(hown.lt k hk).1)).setCell (p:=⟨b,1,none⟩) hB _
end
section
open Go.Shelf Go.RowKit Go.Sort Go.Lib
def adT:Go.Shelf.Ren:=⟨λ| 137=>22 | 217=>34 | 266=>53 | n=>n,λ| 9=>9 | 5=>5 | 3=>3 | n=>n,λ| n=>n⟩
theorem ah7:Go.Proofs.Lays.n137 Tryz.prog adT:={
 mixed:=by kernel_rfl
 f137:=Tryz.func22.trans (congrArg some (by kernel_rfl))
 f217:=Tryz.func34.trans (congrArg some (by kernel_rfl))
 f266:=Tryz.func53.trans (congrArg some (by kernel_rfl))
 t3:=Tryz.underlying3
 a3:=Tryz.isAgg3
 z3:=Tryz.sizeOf3
 v3:=Tryz.zeroValue3
 t5:=Tryz.underlying5
 a5:=Tryz.isAgg5
 z5:=Tryz.sizeOf5
 v5:=Tryz.zeroValue5
 t9:=Tryz.underlying9
 a9:=Tryz.isAgg9
 z9:=Tryz.sizeOf9
 v9:=Tryz.zeroValue9 }
def adU:Go.Shelf.Ren:=⟨λ| 102=>24 | 209=>36 | 207=>57 | n=>n,λ| 9=>9 | 4=>4 | 3=>3 | n=>n,λ| n=>n⟩
theorem ah8:Go.Proofs.Lays.n102 Tryz.prog adU:={
 mixed:=by kernel_rfl
 f102:=Tryz.func24.trans (congrArg some (by kernel_rfl))
 f207:=Tryz.func57.trans (congrArg some (by kernel_rfl))
 f209:=Tryz.func36.trans (congrArg some (by kernel_rfl))
 t3:=Tryz.underlying3
 a3:=Tryz.isAgg3
 z3:=Tryz.sizeOf3
 v3:=Tryz.zeroValue3
 t4:=Tryz.underlying4
 a4:=Tryz.isAgg4
 z4:=Tryz.sizeOf4
 v4:=Tryz.zeroValue4
 t9:=Tryz.underlying9
 a9:=Tryz.isAgg9
 z9:=Tryz.sizeOf9
 v9:=Tryz.zeroValue9 }
def kU:Go.Shelf.Ren:=⟨λ| 146=>23 | 221=>35 | 268=>54 | 138=>55 | 143=>56 | 195=>86 | 197=>87 | 218=>88 | 219=>89 | 260=>118 | 217=>34 | 225=>119 | 224=>120 | 267=>121 | 266=>53 | 314=>155 | n=>n,λ| 9=>9 | 31=>90 | 3=>3 | 4=>4 | 0=>0 | 105=>180 | 21=>21 | 5=>5 | 46=>184 | 119=>248 | 139=>251 | 138=>250 | 146=>252 | 51=>209 | n=>n,λ| 1=>2 | 3=>6 | 4=>7 | n=>n⟩
theorem jW:Go.Proofs.Lays.n146 Tryz.prog kU:={
 mixed:=by kernel_rfl
 f138:=Tryz.func55.trans (congrArg some (by kernel_rfl))
 f143:=Tryz.func56.trans (congrArg some (by kernel_rfl))
 f146:=Tryz.func23.trans (congrArg some (by kernel_rfl))
 f195:=Tryz.func86.trans (congrArg some (by kernel_rfl))
 f197:=Tryz.func87.trans (congrArg some (by kernel_rfl))
 f217:=Tryz.func34.trans (congrArg some (by kernel_rfl))
 f218:=Tryz.func88.trans (congrArg some (by kernel_rfl))
 f219:=Tryz.func89.trans (congrArg some (by kernel_rfl))
 f221:=Tryz.func35.trans (congrArg some (by kernel_rfl))
 f224:=Tryz.func120.trans (congrArg some (by kernel_rfl))
 f225:=Tryz.func119.trans (congrArg some (by kernel_rfl))
 f260:=Tryz.func118.trans (congrArg some (by kernel_rfl))
 f266:=Tryz.func53.trans (congrArg some (by kernel_rfl))
 f267:=Tryz.func121.trans (congrArg some (by kernel_rfl))
 f268:=Tryz.func54.trans (congrArg some (by kernel_rfl))
 f314:=Tryz.func155.trans (congrArg some (by kernel_rfl))
 t0:=Tryz.underlying0
 a0:=Tryz.isAgg0
 z0:=Tryz.sizeOf0
 v0:=Tryz.zeroValue0
 t3:=Tryz.underlying3
 a3:=Tryz.isAgg3
 z3:=Tryz.sizeOf3
 v3:=Tryz.zeroValue3
 t4:=Tryz.underlying4
 a4:=Tryz.isAgg4
 z4:=Tryz.sizeOf4
 v4:=Tryz.zeroValue4
 t5:=Tryz.underlying5
 a5:=Tryz.isAgg5
 z5:=Tryz.sizeOf5
 v5:=Tryz.zeroValue5
 t9:=Tryz.underlying9
 a9:=Tryz.isAgg9
 z9:=Tryz.sizeOf9
 v9:=Tryz.zeroValue9
 t21:=Tryz.underlying21
 a21:=Tryz.isAgg21
 z21:=Tryz.sizeOf21
 v21:=Tryz.zeroValue21
 t31:=Tryz.underlying90
 a31:=Tryz.isAgg90
 z31:=Tryz.sizeOf90
 v31:=Tryz.zeroValue90
 t46:=Tryz.underlying184
 a46:=Tryz.isAgg184
 z46:=Tryz.sizeOf184
 v46:=Tryz.zeroValue184
 t51:=Tryz.underlying209
 a51:=Tryz.isAgg209
 z51:=Tryz.sizeOf209
 v51:=Tryz.zeroValue209
 t105:=Tryz.underlying180
 a105:=Tryz.isAgg180
 z105:=Tryz.sizeOf180
 v105:=Tryz.zeroValue180
 t119:=Tryz.underlying248
 a119:=Tryz.isAgg248
 z119:=Tryz.sizeOf248
 t138:=Tryz.underlying250
 a138:=Tryz.isAgg250
 z138:=Tryz.sizeOf250
 v138:=Tryz.zeroValue250
 t139:=Tryz.underlying251
 a139:=Tryz.isAgg251
 z139:=Tryz.sizeOf251
 v139:=Tryz.zeroValue251
 t146:=Tryz.underlying252
 a146:=Tryz.isAgg252
 z146:=Tryz.sizeOf252
 v146:=Tryz.zeroValue252
 g1:=by kernel_rfl
 g3:=by kernel_rfl
 g4:=by kernel_rfl }
def qK:Go.Shelf.Ren:=⟨λ| 172=>26 | 244=>37 | 245=>38 | 247=>58 | 279=>59 | 280=>60 | 281=>61 | 282=>62 | 287=>90 | 316=>91 | 171=>20 | 205=>92 | 321=>122 | 322=>123 | 243=>33 | 246=>52 | 283=>82 | 284=>83 | 285=>84 | 286=>85 | 129=>114 | 317=>113 | 318=>115 | 319=>116 | 320=>117 | 337=>153 | 338=>154 | n=>n,λ| 9=>9 | 3=>3 | 75=>63 | 76=>64 | 4=>4 | 5=>5 | 167=>141 | 37=>58 | 0=>0 | 85=>142 | 2=>2 | 168=>144 | 53=>174 | 175=>182 | 46=>184 | 210=>187 | 127=>87 | 145=>215 | 143=>213 | 21=>21 | 171=>173 | 173=>177 | 212=>208 | 51=>209 | 20=>20 | 213=>210 | 232=>263 | 233=>264 | 80=>67 | n=>n,λ| 15=>3 | 16=>4 | 17=>5 | 18=>8 | 19=>9 | n=>n⟩
theorem JC:Go.Proofs.LaysC.n172 Tryz.prog qK:={
 mixed:=by kernel_rfl
 f129:=Tryz.func114.trans (congrArg some (by kernel_rfl))
 f171:=Tryz.func20.trans (congrArg some (by kernel_rfl))
 f172:=Tryz.func26.trans (congrArg some (by kernel_rfl))
 f205:=Tryz.func92.trans (congrArg some (by kernel_rfl))
 f243:=Tryz.func33.trans (congrArg some (by kernel_rfl))
 f244:=Tryz.func37.trans (congrArg some (by kernel_rfl))
 f245:=Tryz.func38.trans (congrArg some (by kernel_rfl))
 f246:=Tryz.func52.trans (congrArg some (by kernel_rfl))
 f247:=Tryz.func58.trans (congrArg some (by kernel_rfl))
 f279:=Tryz.func59.trans (congrArg some (by kernel_rfl))
 f280:=Tryz.func60.trans (congrArg some (by kernel_rfl))
 f281:=Tryz.func61.trans (congrArg some (by kernel_rfl))
 f282:=Tryz.func62.trans (congrArg some (by kernel_rfl))
 f283:=Tryz.func82.trans (congrArg some (by kernel_rfl))
 f284:=Tryz.func83.trans (congrArg some (by kernel_rfl))
 f285:=Tryz.func84.trans (congrArg some (by kernel_rfl))
 f286:=Tryz.func85.trans (congrArg some (by kernel_rfl))
 f287:=Tryz.func90.trans (congrArg some (by kernel_rfl))
 f316:=Tryz.func91.trans (congrArg some (by kernel_rfl))
 f317:=Tryz.func113.trans (congrArg some (by kernel_rfl))
 f318:=Tryz.func115.trans (congrArg some (by kernel_rfl))
 f319:=Tryz.func116.trans (congrArg some (by kernel_rfl))
 f320:=Tryz.func117.trans (congrArg some (by kernel_rfl))
 f321:=Tryz.func122.trans (congrArg some (by kernel_rfl))
 f322:=Tryz.func123.trans (congrArg some (by kernel_rfl))
 f337:=Tryz.func153.trans (congrArg some (by kernel_rfl))
 f338:=Tryz.func154.trans (congrArg some (by kernel_rfl))
 t0:=Tryz.underlying0
 a0:=Tryz.isAgg0
 z0:=Tryz.sizeOf0
 v0:=Tryz.zeroValue0
 t2:=Tryz.underlying2
 a2:=Tryz.isAgg2
 z2:=Tryz.sizeOf2
 v2:=Tryz.zeroValue2
 t3:=Tryz.underlying3
 a3:=Tryz.isAgg3
 z3:=Tryz.sizeOf3
 v3:=Tryz.zeroValue3
 t4:=Tryz.underlying4
 a4:=Tryz.isAgg4
 z4:=Tryz.sizeOf4
 v4:=Tryz.zeroValue4
 t5:=Tryz.underlying5
 a5:=Tryz.isAgg5
 z5:=Tryz.sizeOf5
 v5:=Tryz.zeroValue5
 t9:=Tryz.underlying9
 a9:=Tryz.isAgg9
 z9:=Tryz.sizeOf9
 v9:=Tryz.zeroValue9
 t20:=Tryz.underlying20
 a20:=Tryz.isAgg20
 z20:=Tryz.sizeOf20
 v20:=Tryz.zeroValue20
 t21:=Tryz.underlying21
 a21:=Tryz.isAgg21
 z21:=Tryz.sizeOf21
 v21:=Tryz.zeroValue21
 t37:=Tryz.underlying58
 a37:=Tryz.isAgg58
 z37:=Tryz.sizeOf58
 v37:=Tryz.zeroValue58
 t46:=Tryz.underlying184
 a46:=Tryz.isAgg184
 z46:=Tryz.sizeOf184
 v46:=Tryz.zeroValue184
 t51:=Tryz.underlying209
 a51:=Tryz.isAgg209
 z51:=Tryz.sizeOf209
 v51:=Tryz.zeroValue209
 t53:=Tryz.underlying174
 a53:=Tryz.isAgg174
 z53:=Tryz.sizeOf174
 v53:=Tryz.zeroValue174
 t75:=Tryz.underlying63
 a75:=Tryz.isAgg63
 z75:=Tryz.sizeOf63
 v75:=Tryz.zeroValue63
 t76:=Tryz.underlying64
 a76:=Tryz.isAgg64
 z76:=Tryz.sizeOf64
 v76:=Tryz.zeroValue64
 t85:=Tryz.underlying142
 a85:=Tryz.isAgg142
 z85:=Tryz.sizeOf142
 v85:=Tryz.zeroValue142
 t127:=Tryz.underlying87
 a127:=Tryz.isAgg87
 z127:=Tryz.sizeOf87
 v127:=Tryz.zeroValue87
 t143:=Tryz.underlying213
 a143:=Tryz.isAgg213
 z143:=Tryz.sizeOf213
 v143:=Tryz.zeroValue213
 t145:=Tryz.underlying215
 a145:=Tryz.isAgg215
 z145:=Tryz.sizeOf215
 v145:=Tryz.zeroValue215
 t167:=Tryz.underlying141
 a167:=Tryz.isAgg141
 z167:=Tryz.sizeOf141
 v167:=Tryz.zeroValue141
 t168:=Tryz.underlying144
 a168:=Tryz.isAgg144
 z168:=Tryz.sizeOf144
 v168:=Tryz.zeroValue144
 t171:=Tryz.underlying173
 a171:=Tryz.isAgg173
 z171:=Tryz.sizeOf173
 v171:=Tryz.zeroValue173
 t173:=Tryz.underlying177
 a173:=Tryz.isAgg177
 z173:=Tryz.sizeOf177
 v173:=Tryz.zeroValue177
 t175:=Tryz.underlying182
 a175:=Tryz.isAgg182
 z175:=Tryz.sizeOf182
 v175:=Tryz.zeroValue182
 t210:=Tryz.underlying187
 a210:=Tryz.isAgg187
 z210:=Tryz.sizeOf187
 v210:=Tryz.zeroValue187
 t212:=Tryz.underlying208
 a212:=Tryz.isAgg208
 z212:=Tryz.sizeOf208
 v212:=Tryz.zeroValue208
 t213:=Tryz.underlying210
 a213:=Tryz.isAgg210
 z213:=Tryz.sizeOf210
 t232:=Tryz.underlying263
 a232:=Tryz.isAgg263
 z232:=Tryz.sizeOf263
 v232:=Tryz.zeroValue263
 t233:=Tryz.underlying264
 a233:=Tryz.isAgg264
 z233:=Tryz.sizeOf264
 v233:=Tryz.zeroValue264
 g15:=by kernel_rfl
 g16:=by kernel_rfl
 g17:=by kernel_rfl
 g18:=by kernel_rfl
 g19:=by kernel_rfl
 t80:=Tryz.underlying67
 a80:=Tryz.isAgg67
 z80:=Tryz.sizeOf67
 v80:=Tryz.zeroValue67
 i0:=by kernel_rfl
 i2:=by kernel_rfl
 i3:=by kernel_rfl
 i4:=by kernel_rfl
 i5:=by kernel_rfl
 i9:=by kernel_rfl
 i20:=by kernel_rfl
 i21:=by kernel_rfl
 i37:=by kernel_rfl
 i46:=by kernel_rfl
 i51:=by kernel_rfl
 i53:=by kernel_rfl
 i75:=by kernel_rfl
 i76:=by kernel_rfl
 i80:=by kernel_rfl
 i85:=by kernel_rfl
 i127:=by kernel_rfl
 i143:=by kernel_rfl
 i145:=by kernel_rfl
 i167:=by kernel_rfl
 i168:=by kernel_rfl
 i171:=by kernel_rfl
 i173:=by kernel_rfl
 i175:=by kernel_rfl
 i210:=by kernel_rfl
 i212:=by kernel_rfl
 i232:=by kernel_rfl
 i233:=by kernel_rfl
 m15:=by kernel_rfl
 m16:=by kernel_rfl
 m17:=by kernel_rfl
 m18:=by kernel_rfl
 m19:=by kernel_rfl
 c0:=by kernel_rfl
 c2:=by kernel_rfl
 c3:=by kernel_rfl
 c4:=by kernel_rfl
 c5:=by kernel_rfl
 c9:=by kernel_rfl
 c20:=by kernel_rfl
 c21:=by kernel_rfl
 c37:=by kernel_rfl
 c46:=by kernel_rfl
 c51:=by kernel_rfl
 c53:=by kernel_rfl
 c75:=by kernel_rfl
 c76:=by kernel_rfl
 c80:=by kernel_rfl
 c85:=by kernel_rfl
 c127:=by kernel_rfl
 c143:=by kernel_rfl
 c145:=by kernel_rfl
 c167:=by kernel_rfl
 c168:=by kernel_rfl
 c171:=by kernel_rfl
 c173:=by kernel_rfl
 c175:=by kernel_rfl
 c210:=by kernel_rfl
 c212:=by kernel_rfl
 c213:=by kernel_rfl
 c232:=by kernel_rfl
 c233:=by kernel_rfl }
theorem YB (s:ByteArray) (w:World):Calls Tryz.prog 22 #[.string s,.int .u8 10] w λe w'=>e= .returned (.int .i64 (Lib.indexByte s.data.toList 10))/\w'=w:=Any.strings_IndexByte ah7 s 10 w
theorem VH (s:ByteArray) (w:World) (hs:s.size<=9223372036854775807):Calls Tryz.prog 24 #[.string s,.string ⟨#[10]⟩] w λe w'=>e= .returned (.string ⟨(Lib.trimSuffix s.data.toList [10]).toArray⟩)/\w'=w:=Any.strings_TrimSuffix ah8 s ⟨#[10]⟩ w hs
theorem R4 (s:ByteArray) (w:World) (hs:s.size<4294967281):
  Calls Tryz.prog 23 #[.string s,.string ⟨#[32]⟩] w λe w'=>
   e= .returned (.slice (some ⟨w.heap.size,0,none⟩) (Lib.countB s ⟨#[32]⟩+1) (Lib.countB s ⟨#[32]⟩+1))/\w'=w.alloc (.cells ((Lib.splitB ⟨#[32]⟩ 0 (Lib.countB s ⟨#[32]⟩) s).map Value.string).toArray 9):=by
 have h1:1<=(⟨#[32]⟩:ByteArray).size:=by decide
 have hle:=Lib.countB_le ⟨#[32]⟩ h1 s.size s (Nat.le_refl _);have hlen:=Lib.splitB_all ⟨#[32]⟩ h1 0 _ s rfl;have hI: ∀ (x:ByteArray) (c:Array Value),x.size<=s.size->Calls Tryz.prog (kU.f 143) #[.string x,.string ⟨#[32]⟩] (w.alloc (.cells c (kU.t 9))) λe w'=>e= .returned (.int .i64 (Lib.indexB x ⟨#[32]⟩))/\w'=w.alloc (.cells c (kU.t 9)):=λx c _=>
  (Any.strings_Index_one (ρ:=kU) { jW with } x 32 _).mono λe w' ⟨he,hw⟩=>⟨by rw [he];show _=Ending.returned (Value.int .i64 (Lib.index x.data.toList [32]));rw [Lib.index_one],hw⟩
 have hC:Calls Tryz.prog (kU.f 138) #[.string s,.string ⟨#[32]⟩] w λe w'=>e= .returned (.int .i64 (Lib.countB s ⟨#[32]⟩))/\w'=w:=
  (Any.strings_Count_one (ρ:=kU) { jW with } s 32 w).mono λe w' ⟨he,hw⟩=>⟨by rw [he];show _=Ending.returned (Value.int .i64 ((Lib.count s.data.toList [32]:Nat):Int));rw [Lib.count_one];rfl,hw⟩
 have c:=Any.strings_genSplit_core (ρ:=kU) { jW with } (by kernel_rfl) s ⟨#[32]⟩ 0 (-1) (Lib.countB s ⟨#[32]⟩+1) w hs h1 (Nat.zero_le _) hI hC (by decide) (by decide) (by rw [if_pos (by decide)];omega);rw [Nat.add_sub_cancel,hlen] at c;have e2:Lib.cellsOf (Lib.splitB ⟨#[32]⟩ 0 (Lib.countB s ⟨#[32]⟩) s) (Lib.countB s ⟨#[32]⟩+1)=((Lib.splitB ⟨#[32]⟩ 0 (Lib.countB s ⟨#[32]⟩) s).map Value.string).toArray:=by rw [<-hlen];exact Lib.cellsOf_full _
 rw [e2] at c;have e221: ∀ args w,(callFunc (kU.f 221) args).run Tryz.prog w= .ok (.enter (kU.f 221) args) w:=enters_of jW.f221 (by kernel_rfl) rfl
 show Calls Tryz.prog (kU.f 146) _ _ _
 have t3:=jW.t3;have t9:=jW.t9;have t31:=jW.t31;have a3:=jW.a3;have a9:=jW.a9;have a31:=jW.a31;have z3:=jW.z3;have v3:=jW.v3;have z9:=jW.z9;have v9:=jW.v9;have z31:=jW.z31;have v31:=jW.v31
 go_enter jW.f146,Body.n146_ntmps kU
 go_wp2_with (go_at_fn (kU.f 221);refine c.mono ?_;rintro e w' ⟨rfl,hw⟩;rw [hw])
 go_ret
 exact ⟨rfl,rfl⟩
def pK (l:List UInt8):Int:=match Lib.atoiAll l with
 | .ok v=>v
 | .range=>Lib.atoiSat l
 | _=>0
def mO (w:World):Prop:= ∃ e1 e2,w.cell? ⟨qK.g 15,0,none⟩=some e1/\(e1= .nilIface\/ ∃ te pe,e1= .iface te pe)/\w.cell? ⟨qK.g 16,0,none⟩=some e2/\(e2= .nilIface\/ ∃ te pe,e2= .iface te pe)
theorem mO.on {w w':World} (h:mO w) (hb:Below w.heap.size w w'):mO w':=by
 obtain ⟨e1,e2,h1,h2,h3,h4⟩:=h;exact ⟨e1,e2,(hb.cell (p:=⟨qK.g 15,0,none⟩) (Lib.lt_of_cell h1)).trans h1,h2,(hb.cell (p:=⟨qK.g 16,0,none⟩) (Lib.lt_of_cell h3)).trans h3,h4⟩
theorem VI (s:ByteArray) (hs:s.size<=281474976710656) (w:World) (he:mO w):
  Calls Tryz.prog 26 #[.string s] w λe w'=>(∃ ev,e= .returned (.tuple #[.int .i64 (pK s.data.toList),ev]))/\Below w.heap.size w w':=by
 obtain ⟨e1,e2,h1,h2,h3,h4⟩:=he;unfold pK
 cases h:Lib.atoiAll s.data.toList with
 | ok v=>
  refine (Any.strconv_Atoi_ok JC s (by omega) v h w).mono λe w' ⟨hr,hw⟩=>⟨⟨_,hr⟩,?_⟩
  rcases hw with rfl | ⟨t,rfl⟩
  ·exact Below.refl _ _
  exact Lib.bytesWorld_below _ _ _
 | range=>exact (Any.strconv_Atoi_range JC s hs h e2 w h3 h4).mono λe w' ⟨N,hr,_,_,hb⟩=>⟨⟨_,hr⟩,hb⟩
 | _=>exact (Any.strconv_Atoi_syntax JC s hs h e1 w h1 h2).mono λe w' ⟨N,hr,_,_,hb⟩=>⟨⟨_,hr⟩,hb⟩
end
section
open ChangeShapes WideShapes ChangeAt RowKit
def oM:Char:=Char.ofNat 32
theorem R6 (b:List Char):wordsSigns (oM::b)=[]::wordsSigns b:=rfl
theorem xQ: ∀ (a b:List Char),a.all (λc=> !(c==oM))=true->wordsSigns (a++oM::b)=a::wordsSigns b
 | [],b,_=>R6 b
 | c::a,b,h=>by
  simp only [List.all_cons,Bool.and_eq_true,Bool.not_eq_true',beq_eq_false_iff_ne] at h;have ih:=xQ a b h.2;rw [List.cons_append,wordsSigns,ih];intro e;exact h.1 e
theorem VJ {l:List Char} (h1:l.take 8= "harness".toList++[oM]) (h2:((l.drop 8).take 64).all (λc=> !(c==oM))=true) (h3:(l.drop 72).take 5=[oM]++("cut".toList++[oM])):
  ∃ s rest,s=(l.drop 8).take 64/\wordsSigns l= "harness".toList::s:: "cut".toList::rest:=by
 refine ⟨_,wordsSigns (l.drop 77),rfl,?_⟩;generalize hs:(l.drop 8).take 64=s at h2;have e1:l= "harness".toList++oM::(s++oM::("cut".toList++oM::l.drop 77)):=by
  have a1:l.take 8++l.drop 8=l:=List.take_append_drop 8 l;have a2:(l.drop 8).take 64++(l.drop 8).drop 64=l.drop 8:=List.take_append_drop 64 _;have a3:(l.drop 72).take 5++(l.drop 72).drop 5=l.drop 72:=List.take_append_drop 5 _;rw [List.drop_drop] at a2 a3;rw [h3] at a3;rw [h1] at a1;rw [hs] at a2
  calc l=_:=a1.symm
   _=_:=by rw [<-a2,show 8+64=72 from rfl,<-a3];simp
 generalize l.drop 77=r at e1;rw [e1,xQ _ _ dQ,xQ _ _ h2,xQ _ _ dQ]
theorem MI (rest:List (List Char)):stripLifts liftWords ("cut".toList::rest)=([], "cut".toList::rest):=by
 unfold liftWords
 repeat (rw [stripLifts,if_neg dQ])
 rw [stripLifts]
section
variable {P:Program} {s:List Char} {rest:List (List Char)} (hw:wordsSigns P.initOrder.toList= "harness".toList::s:: "cut".toList::rest) (hs:isSumSigns s=true)
include hw hs
theorem xR:behindMainWord (wordsSigns P.initOrder.toList)= "cut".toList::rest:=by
 rw [hw,behindMainWord,if_pos (by rw [hs];decide)]
theorem OM (h1:P.laysLater=false) (h2:P.bearsReflect=false) (h3:P.doorFits []=true):P.mayEnter=true:=by
 unfold Program.mayEnter;rw [xR hw hs];simp only;rw [MI];simp only [h1,h2];rw [h3];simp
theorem LU:P.headLifts=[]:=by
 unfold Program.headLifts;rw [xR hw hs,MI];rfl
theorem KT:P.liftsFinal=false:=by
 unfold Program.liftsFinal;rw [LU hw hs,xR hw hs];simp only [List.head?_cons];rw [show (some "cut".toList==some "carried".toList)=false by decide]
 rfl
theorem adV:P.make=some .cut:=by
 unfold Program.make;rw [xR hw hs];simp only;rw [if_neg dQ,if_pos (by rw [show ("cut".toList== "cut".toList)=true by decide];rfl)]
end
theorem adW {P:Program} {s t:List Char} {rest:List (List Char)} (hw:wordsSigns P.initOrder.toList= "harness".toList::s::rest) (hs:isSumSigns s=true) (e:s=t):P.mainIs=some (true,t):=by
 subst e;unfold Program.mainIs;rw [hw];simp [hs]
def Ot (P:Program) (f:FuncId) (fn:Func) (s:ChangeSpec) (c:OpenClaim):Bool:=
 c.wf (OpenSpec.ofChange s)&&laidOutB P&&mapsRowed P&&
 fn.params.all (P.readableRec ·)&&namedTie P c.named s.vars&&
 (c.stops==[])&&(P.stops==[])&&(c.knobs==[])&&(P.stopKnobs==[])&&
 (c.inPlace==P.inPlace f)&&(c.unfollowed==P.unfollowed f)&&(c.recurses==P.recurses f)&&(c.named==P.varsNamed f)&&
 (c.maps==(fn.params.toList++s.plain.varTypes P).any (P.mapsRec ·))&&(c.ifaces==(fn.params.toList++s.plain.varTypes P).any (P.ifacesRec ·))&&(c.mapsOut==P.mapsAmong fn.resultTypes.toList)&&
 (c.loops==(fn.params.toList++s.plain.varTypes P).any (P.loopsFrom ·))&&(c.wideKeys==(fn.params.toList++s.plain.varTypes P++fn.resultTypes.toList).any (P.wideKeysFrom ·))&&
 s.vars.all (P.varReadable ·)&&fn.resultTypes.all (λt=>P.readableRec t&&decide (t<P.types.size))&&(c.ifacesOut==fn.resultTypes.toList.any (P.ifacesRec ·))&&(c.loopsOut==fn.resultTypes.toList.any (P.loopsFrom ·))&&(c.plainKeys==P.plainKeys)&&c.shortTexts.isNone&&P.stopsHeard
theorem YC {P:Program} {f:FuncId} {fn:Func} {s:ChangeSpec} {c:OpenClaim} (h:Ot P f fn s c=true) (h1:P.mayEnter=true) (h2:(c.lifted==P.liftsFinal)=true) (h3:(P.make==some c.make)=true)
  (h4:((c.kinds==(if c.domain.isEmpty then [] else fn.params.toList.map λt=>match P.underlying t with | some (.int k)=>some k | _=>none))&&(c.pinned==c.pinnedBy)&&
   (c.veiled==(fn.params.toList++s.plain.varTypes P++fn.resultTypes.toList).any (P.veiledRec ·))&&c.veiledFits P fn.params.toList (fn.params.toList++s.plain.varTypes P++fn.resultTypes.toList))=true):joinedFacts P f fn s c=true:=by
 have e:joinedFacts P f fn s c=(Ot P f fn s c&&P.mayEnter&&(c.lifted==P.liftsFinal)&&(P.make==some c.make)&&(c.kinds==(if c.domain.isEmpty then [] else fn.params.toList.map λt=>match P.underlying t with | some (.int k)=>some k | _=>none))&&(c.pinned==c.pinnedBy)&&
   (c.veiled==(fn.params.toList++s.plain.varTypes P++fn.resultTypes.toList).any (P.veiledRec ·))&&c.veiledFits P fn.params.toList (fn.params.toList++s.plain.varTypes P++fn.resultTypes.toList)):=rfl
 rw [e,h,h1,h2,h3];simpa using h4
theorem YD: ∃ l:List Char,Tryz.prog.initOrder.toList=l/\l.take 8= "harness".toList++[oM]/\((l.drop 8).take 64).all (λc=> !(c==oM))=true/\(l.drop 72).take 5=[oM]++("cut".toList++[oM])/\isSumSigns ((l.drop 8).take 64)=true/\(l.drop 8).take 64= "f07cded8aaf67dc3c75da2e04a38ffa9eb6fac093b1435330a7ee6a42028182a".toList:=by
 rw [show Tryz.prog.initOrder=Tryz.tables.initOrder by kernel_rfl];unfold Tryz.tables;simp only [];exact ⟨_,String.toList_ofList,by kernel_rfl,by kernel_rfl,by kernel_rfl,by kernel_rfl,by kernel_rfl⟩
theorem Ba: ∃ s rest,wordsSigns Tryz.prog.initOrder.toList= "harness".toList::s:: "cut".toList::rest/\isSumSigns s=true/\s= "f07cded8aaf67dc3c75da2e04a38ffa9eb6fac093b1435330a7ee6a42028182a".toList:=by
 obtain ⟨l,e,h1,h2,h3,h4,h5⟩:=YD;obtain ⟨s,rest,es,hw⟩:=VJ h1 h2 h3;subst es;exact ⟨_,rest,by rw [e];exact hw,h4,h5⟩
theorem VK:Tryz.prog.laysLater=false:=kQ
theorem OO:Tryz.prog.bearsReflect=false:=kQ
theorem VL:Tryz.prog.doorFits []=true:=kQ
theorem VN:Tryz.prog.mayEnter=true:=by
 obtain ⟨s,rest,hw,hs,_⟩:=Ba;exact OM hw hs VK OO VL
theorem VO:(false==Tryz.prog.liftsFinal)=true:=by
 obtain ⟨s,rest,hw,hs,_⟩:=Ba;rw [KT hw hs];rfl
theorem YE:(Tryz.prog.make==some .cut)=true:=by
 obtain ⟨s,rest,hw,hs,_⟩:=Ba;rw [adV hw hs]
 decide
theorem YF:Tryz.prog.mainIs=some (true, "f07cded8aaf67dc3c75da2e04a38ffa9eb6fac093b1435330a7ee6a42028182a".toList):=by
 obtain ⟨s,rest,hw,hs,e⟩:=Ba;exact adW hw hs e
theorem VP:true=Tryz.pinned.checked.prog.looks []:=kQ
end
end Go.Proofs.YtcomidffhiilcaaGreatDoor
