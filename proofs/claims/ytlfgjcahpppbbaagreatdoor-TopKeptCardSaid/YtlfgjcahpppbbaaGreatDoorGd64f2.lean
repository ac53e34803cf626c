import Derived.Scope
import Derived.Test.YtlfgjcahpppbbaaGreatDoorCards
import Derived.Test.YtlfgjcahpppbbaaGreatDoorG67939
set_option maxRecDepth 100000
set_option maxHeartbeats 8000000
set_option linter.unusedSimpArgs false
set_option linter.unusedVariables false
namespace Go.Proofs.YtlfgjcahpppbbaaGreatDoor
section
open ChangeShapes WideShapes RowKit
abbrev fA (s f k:Nat):Prop:= ∀ (b o:Nat) (w:World),(Instr.fieldAt s (.pointer (some ⟨b,o,none⟩)) f).run tP w= .ok (.pointer (some ⟨b,o+k,none⟩)) w
abbrev iF (t k:Nat):Prop:=(tP.info? t).map (·.size)=some k
abbrev iZ (t:Nat) (z:Value) (s b:Nat):Prop:=(tP.info? t).map (λi=>(i.zero,i.size,i.bytes))=some (some z,s,b)
abbrev eN (f:FuncId):Prop:= ∀ (args:Array Value) (w:World),(callFunc f args).run tP w= .ok (.enter f args) w
theorem asO:iF 3 1:=kQ
theorem anM:iF 4 1:=kQ
theorem azo:iF 5 1:=kQ
theorem avR:iF 22 1:=kQ
theorem avS:iF 23 1:=kQ
theorem avT:iF 24 1:=kQ
theorem avU:iF 26 2:=kQ
theorem apB:fA 26 0 0:=fQ
theorem apC:fA 26 1 1:=fQ
theorem MF:iF 27 2:=kQ
theorem apD:fA 27 0 0:=fQ
theorem apE:fA 27 1 1:=fQ
theorem avV:iF 30 8:=kQ
theorem avW:iF 31 1:=kQ
theorem avX:iF 32 1:=kQ
theorem avY:iF 33 1:=kQ
theorem avZ:iF 34 18:=kQ
theorem apF:fA 34 0 0:=fQ
theorem apG:fA 34 1 1:=fQ
theorem apH:fA 34 2 6:=fQ
theorem apI:fA 34 3 14:=fQ
theorem apJ:fA 34 4 15:=fQ
theorem amm:iF 35 18:=kQ
theorem apK:fA 35 0 0:=fQ
theorem apL:fA 35 1 1:=fQ
theorem apM:fA 35 2 6:=fQ
theorem apN:fA 35 3 14:=fQ
theorem apO:fA 35 4 15:=fQ
theorem apP:fA 35 5 16:=fQ
theorem apQ:fA 35 6 17:=fQ
theorem av0:iF 79 1:=kQ
theorem amn:iF 55 1:=kQ
theorem xD:iF 57 6:=kQ
theorem apR:iZ 57 (.agg #[iV 0,iV 0,iV 0,iV 0,iV 0,.slice none 0 0]) 6 64:=kQ
theorem NW:fA 57 0 0:=fQ
theorem apS:fA 57 1 1:=fQ
theorem apT:fA 57 2 2:=fQ
theorem apU:fA 57 3 3:=fQ
theorem apV:fA 57 4 4:=fQ
theorem aen:fA 57 5 5:=fQ
theorem amo:iF 58 1:=kQ
theorem aeo:iZ 58 (.slice none 0 0) 1 24:=kQ
theorem av1:iF 40 1:=kQ
theorem av2:iF 41 1:=kQ
theorem amq:iF 44 9:=kQ
theorem av3:iF 45 36:=kQ
theorem amr:iF 47 41:=kQ
theorem apW:fA 47 0 0:=fQ
theorem apX:fA 47 1 1:=fQ
theorem apY:fA 47 2 2:=fQ
theorem apZ:fA 47 3 3:=fQ
theorem ap0:fA 47 4 4:=fQ
theorem ap1:fA 47 5 5:=fQ
theorem av4:iF 63 2:=kQ
theorem ap2:fA 63 0 0:=fQ
theorem ap3:fA 63 1 1:=fQ
theorem zH:iF 65 6:=kQ
theorem oO:iZ 65 (.agg #[iV 0,iV 0,iV 0,iV 0,iV 0,iV 0]) 6 48:=kQ
theorem ap4:fA 65 0 0:=fQ
theorem ap5:fA 65 1 1:=fQ
theorem ap6:fA 65 2 2:=fQ
theorem ap7:fA 65 3 3:=fQ
theorem ap8:fA 65 4 4:=fQ
theorem uy:iF 71 11:=kQ
theorem JI:iZ 71 (.agg #[iV 0,iV 0,iV 0,iV 0,iV 0,iV 0,iV 0,iV 0,iV 0,iV 0,iV 0]) 11 88:=kQ
theorem ap9:fA 71 0 0:=fQ
theorem aqa:fA 71 1 1:=fQ
theorem aqb:fA 71 2 2:=fQ
theorem aqc:fA 71 3 3:=fQ
theorem aqd:fA 71 4 4:=fQ
theorem aqe:fA 71 5 5:=fQ
theorem av5:iF 67 4:=kQ
theorem aqf:iZ 67 (.agg #[iV 0,iV 0,iV 0,iV 0]) 4 32:=kQ
theorem av6:iF 137 7:=kQ
theorem aqg:fA 137 0 0:=fQ
theorem aqh:fA 137 1 1:=fQ
theorem av7:iF 138 7:=kQ
theorem aqi:iZ 138 (.agg #[iV 0,iV 0,iV 0,iV 0,iV 0,iV 0,iV 0]) 7 56:=kQ
theorem aqj:fA 138 2 5:=fQ
theorem aer:iZ 69 (.agg #[iV 0,iV 0,iV 0,iV 0,iV 0,iV 0,iV 0,iV 0,iV 0,iV 0,iV 0,iV 0,iV 0,iV 0]) 14 112:=kQ
theorem ams:iF 87 2:=kQ
theorem VE:iZ 87 (.agg #[iV 0,iV 0]) 2 16:=kQ
theorem aqk:fA 87 0 0:=fQ
theorem aql:fA 87 1 1:=fQ
theorem av8:iF 89 4:=kQ
theorem aes:iZ 89 (.agg #[iV 0,iV 0,iV 0,iV 0]) 4 32:=kQ
theorem aqm:fA 89 0 0:=fQ
theorem aqn:fA 89 1 2:=fQ
theorem aqo:iF 73 5:=kQ
theorem ajL:fA 73 0 0:=fQ
theorem ajM:fA 73 1 1:=fQ
theorem ajN:fA 73 2 2:=fQ
theorem ajO:fA 73 3 3:=fQ
theorem ajP:fA 73 4 4:=fQ
theorem aqp:iF 74 5:=kQ
theorem Za:fA 74 0 0:=fQ
theorem P7:fA 74 1 1:=fQ
theorem Zb:fA 74 2 2:=fQ
theorem BG:fA 74 3 3:=fQ
theorem P8:fA 74 4 4:=fQ
theorem aqr:iF 98 1:=kQ
theorem aqs:iF 99 1:=kQ
theorem VF:iF 101 2:=kQ
theorem ajQ:fA 101 0 0:=fQ
theorem ajR:fA 101 1 1:=fQ
theorem aqt:iF 102 8:=kQ
theorem ajS:fA 105 0 0:=fQ
theorem ajT:fA 105 1 1:=fQ
theorem ajU:fA 105 2 9:=fQ
theorem ajV:fA 105 3 10:=fQ
theorem ajW:fA 105 4 50:=fQ
theorem aqu:iF 106 1:=kQ
theorem Es:iZ 106 (.pointer none) 1 8:=kQ
theorem aqv:iF 109 2:=kQ
theorem Zc:fA 109 0 0:=fQ
theorem ajX:fA 109 1 1:=fQ
theorem aqw:iF 110 4:=kQ
theorem aqx:iF 111 1:=kQ
theorem aqy:iF 113 20:=kQ
theorem ajY:fA 113 0 0:=fQ
theorem ajZ:fA 113 1 1:=fQ
theorem aj0:fA 113 2 2:=fQ
theorem aj1:fA 113 3 4:=fQ
theorem aj2:fA 113 4 5:=fQ
theorem aj3:fA 113 5 13:=fQ
theorem aj4:fA 113 6 17:=fQ
theorem aj5:fA 113 7 18:=fQ
theorem aj6:fA 113 8 19:=fQ
theorem aqz:iF 83 1:=kQ
theorem aqA:iF 85 42:=kQ
theorem aj7:fA 85 0 0:=fQ
theorem aj8:fA 85 1 41:=fQ
theorem aqB:iF 119 41:=kQ
theorem aj9:fA 119 0 0:=fQ
theorem akb:fA 120 0 0:=fQ
theorem aqC:iF 93 4:=kQ
theorem Zd:fA 93 0 0:=fQ
theorem BH:fA 93 1 1:=fQ
theorem BI:fA 93 2 2:=fQ
theorem IU:fA 93 3 3:=fQ
theorem aqD:iF 131 1:=kQ
theorem aqE:iF 133 2:=kQ
theorem akc:fA 133 0 0:=fQ
theorem akd:fA 133 1 1:=fQ
theorem aqF:iF 140 23:=kQ
theorem Ze:iZ 140 (.agg #[iV 0,iV 0,iV 0,iV 0,iV 0,iV 0,iV 0,iV 0,iV 0,iV 0,iV 0,iV 0,iV 0,.slice none 0 0,.bool false,iV 0,iV 0,iV 0,iV 0,iV 0,iV 0,iV 0,iV 0]) 23 200:=kQ
theorem ake:fA 140 0 0:=fQ
theorem akf:fA 140 1 1:=fQ
theorem akg:fA 140 2 2:=fQ
theorem akh:fA 140 3 3:=fQ
theorem aki:fA 140 4 4:=fQ
theorem akj:fA 140 5 5:=fQ
theorem akk:fA 140 6 6:=fQ
theorem akl:fA 140 7 7:=fQ
theorem akm:fA 140 8 13:=fQ
theorem akn:fA 140 9 14:=fQ
theorem afU:fA 140 10 15:=fQ
theorem afV:fA 140 11 16:=fQ
theorem aqG:iF 171 10:=kQ
theorem P9:iZ 171 (.agg #[iV 0,iV 0,iV 0,iV 0,iV 0,iV 0,iV 0,iV 0,iV 0,iV 0]) 10 80:=kQ
theorem ako:fA 171 0 0:=fQ
theorem akp:fA 171 1 1:=fQ
theorem akq:fA 171 2 2:=fQ
theorem akr:fA 171 3 3:=fQ
theorem aks:fA 171 4 4:=fQ
theorem aqH:iF 224 1:=kQ
theorem RX:eN 19:=eQ
theorem Ca:eN 34:=eQ
theorem azp:eN 20:=eQ
theorem mixed:tP.follows .mixedOrders=true:=kQ
abbrev gN (o:Oper) (d N:Nat):Prop:=o.guard=none/\o.dst=some d/\Nat.blt d N=true
abbrev gM (o:Oper) (d N:Nat) (p:Prop):Prop:=o.guard=none/\o.dst=some d/\Nat.blt d N=true/\p
abbrev gS (o:Oper) (ops:Array Oper) (j:Nat) (b:Bool) (t:Nat):Prop:=o.guard=some (j,b)/\(ops[j]?).bind (·.dst)=some t
abbrev gY (u:Value) (b c:Bool) (o:Oper) (d N:Nat):Prop:=(yl u==some b)=c/\o.dst=some d/\Nat.blt d N=true
inductive sS (b:Nat):List Fact->Array Value->TypeId->Prop
 | z {row:Array Value} {t:TypeId} {fs:List Fact}:sS b (.blk b row t::fs) row t
 | s {row:Array Value} {t:TypeId} {f:Fact} {fs:List Fact}:sS b fs row t->sS b (f::fs) row t
theorem fbQ {b:Nat} {fs:List Fact} {row:Array Value} {t:TypeId} (h:sS b fs row t:=by repeat' first | exact sS.z | apply sS.s):sS b fs row t:=h
theorem sS.at_ {b:Nat} {fs:List Fact} {row:Array Value} {t:TypeId} (h:sS b fs row t): ∃ i:Nat,fs[i]? =some (Fact.blk b row t):=by
 induction h with
 | z=>exact ⟨0,rfl⟩
 | s _ ih=>obtain ⟨i,hi⟩:=ih;exact ⟨i+1,by simpa using hi⟩
inductive Dl:List Fact->List Fact->Prop
 | r {fs:List Fact}:Dl fs fs
 | k {f:Fact} {fs gs:List Fact}:Dl fs gs->Dl (f::fs) (f::gs)
 | d {f:Fact} {fs gs:List Fact}:Dl fs gs->Dl fs (f::gs)
 | a {fs gs:List Fact}:Dl fs (fs++gs)
theorem Dl.sub {fs gs:List Fact} (h:Dl fs gs):fs.Sublist gs:=by
 induction h with
 | r=>exact List.Sublist.refl _
 | k _ ih=>exact ih.cons_cons _
 | d _ ih=>exact ih.cons _
 | a=>exact List.sublist_append_left _ _
theorem VG {t:TypeId} {ds:TypeDesc} (h:Tryz.prog.underlying t=some ds:=by with_reducible first | exact Tryz.underlying3 | exact Tryz.underlying57 | exact Tryz.underlying55 | exact Tryz.underlying71 | exact Tryz.underlying58 | exact Tryz.underlying106 | exact Tryz.underlying67 | exact Tryz.underlying171 | exact Tryz.underlying65 | exact Tryz.underlying133 | exact Tryz.underlying98 | exact Tryz.underlying206 | exact Tryz.underlying109 | exact Tryz.underlying249 | exact Tryz.underlying99 | exact Tryz.underlying40 | exact Tryz.underlying23 | exact Tryz.underlying41 | exact Tryz.underlying47 | exact Tryz.underlying111 | exact Tryz.underlying4 | exact Tryz.underlying31 | exact Tryz.underlying107 | exact Tryz.underlying140 | exact Tryz.underlying95 | exact Tryz.underlying30 | exact Tryz.underlying174 | exact Tryz.underlying147 | exact Tryz.underlying35 | exact Tryz.underlying124 | exact Tryz.underlying28 | exact Tryz.underlying27 | exact Tryz.underlying87 | exact Tryz.underlying138 | exact Tryz.underlying32 | exact Tryz.underlying33 | exact Tryz.underlying83 | exact Tryz.underlying127 | exact Tryz.underlying205 | exact Tryz.underlying89 | exact Tryz.underlying110 | exact Tryz.underlying224 | exact Tryz.underlying5 | exact Tryz.underlying103 | exact Tryz.underlying102 | exact Tryz.underlying45 | exact Tryz.underlying44 | exact Tryz.underlying131 | exact Tryz.underlying63 | exact Tryz.underlying153 | exact Tryz.underlying22 | exact Tryz.underlying74 | exact Tryz.underlying101 | exact Tryz.underlying93 | exact Tryz.underlying113 | exact Tryz.underlying25):Tryz.prog.underlying t=some ds:=h
theorem iiQ {t:TypeId} {m:Nat} (h:(Tryz.prog.info? t).map (·.size)=some m:=by with_reducible first | exact xD | exact aqo | exact uy | exact asO | exact av5 | exact avU | exact aGa | exact zH | exact aqG | exact amr | exact aqv | exact av2 | exact aqE | exact MF | exact aqA | exact av6 | exact avZ | exact aqD | exact aqF | exact avV | exact amm | exact anM | exact amn | exact aqB | exact azo | exact aqx | exact av0 | exact aqu | exact av8 | exact amq | exact avS | exact ams | exact VF | exact avR | exact aGb | exact aqs | exact aqr | exact av7 | exact amo | exact av4 | exact av1 | exact avX | exact aqt | exact avT | exact aqp | exact aqy | exact avW | exact aqz | exact aqw | exact avY | exact aqC | exact aqH | exact av3):(Tryz.prog.info? t).map (·.size)=some m:=h
section
variable {P:Program} {N:Nat} {l l':Slots} {w w' w0:World} {ops:Array Oper} {o:Oper} {rest:List Oper} {Q:Exit->Act->World->Prop} {d B:Nat} {v p:Value} {fs fs':List Fact} {ex:Exit}
section
variable {x y:Operand} {t tt s:TypeId} {ds:TypeDesc} {b k f o0 n c m:Nat} {g:Nat->Nat} {row:Array Value} {A:Option Addr} {e:TypeId}
theorem zfa (ho:o.op= .fieldAddr s x f/\ev l x=some (.pointer (some ⟨b,o0,none⟩)):=by exact ⟨rfl,rfl⟩) (hf: ∀ (b o:Nat) (w:World),(Instr.fieldAt s (.pointer (some ⟨b,o,none⟩)) f).run P w= .ok (.pointer (some ⟨b,g o,none⟩)) w:=by with_reducible first | exact ajL | exact aen | exact NW | exact akb | exact apS | exact ap9 | exact aj5 | exact aj1 | exact aqe | exact ajM | exact aqa | exact aj0 | exact ajS | exact ap4 | exact ajY | exact akh | exact ajZ | exact ajO | exact apZ | exact ako | exact aqb | exact ajP | exact ap0 | exact aj7 | exact apU | exact ajT | exact apD | exact aqc | exact apV | exact ajN | exact ajU | exact akf | exact akr | exact apN | exact ap8 | exact apE | exact aki | exact apB | exact apC | exact aqg | exact ajW | exact apT | exact aj4 | exact akq | exact apW | exact apY | exact aj2 | exact apX | exact akg | exact ap5 | exact aqk | exact ap3 | exact aj8 | exact akk | exact aqm | exact akj | exact aqd | exact ap6 | exact ap7 | exact ap2 | exact aj9 | exact BH | exact BI | exact BG | exact ake | exact aj3 | exact akl | exact apQ | exact apF | exact aqn | exact aks | exact aj6 | exact akn | exact afU | exact aql | exact ajV | exact apO | exact apP | exact ap1 | exact akc | exact IU | exact akp | exact apG | exact apJ | exact P7 | exact P8 | exact akm | exact Zc | exact aqh | exact aqj | exact akd | exact apH | exact apI | exact ajQ | exact ajR | exact afV | exact Zd | exact Zb | exact Za | exact ajX | exact apK | exact apM | exact apL):jy P N l o w (.pointer (some ⟨b,g o0,none⟩)):=Ht ho.1 ho.2 (hf b o0 w)
theorem zld (ho:o.op= .load t x/\ev l x=some (.pointer (some ⟨b,k,none⟩)):=by exact ⟨rfl,rfl⟩) (hu:P.underlying t=some ds:=by exact VG) (hd:ds.isRow=false:=by exact rfl) (S:St B w0 w fs:=by assumption) (hf:sS b fs row tt:=by exact fbQ) (hk:row[k]? =some v:=by exact rfl):jy P N l o w v:=by
 obtain ⟨i,hi⟩:=hf.at_;exact aj ho.1 ho.2 (qw hu hd (St.cl i S hi hk))
theorem zlr (ho:o.op= .load t x/\ev l x=some (.pointer (some ⟨b,0,none⟩)):=by exact ⟨rfl,rfl⟩) (hu:P.underlying t=some ds:=by exact VG) (hd:ds.isRow=true:=by exact rfl) (S:St B w0 w fs:=by assumption) (hf:sS b fs row tt:=by exact fbQ) (hz:(P.info? t).map (·.size)=some m:=by exact iiQ) (hm:row.size=m:=by exact rfl):jy P N l o w (.agg row):=by
 obtain ⟨i,hi⟩:=hf.at_;exact aj ho.1 ho.2 (oH i S hi hu hd hz hm)
theorem zln (ho:o.op= .call { callee:= .builtin .len,args:= #[x],argTypes:= #[t] }/\ev l x=some (.slice A n c):=by exact ⟨rfl,rfl⟩) (hu:P.underlying t=some (.slice e):=by exact VG):jy P N l o w (.int .i64 ((n:Nat):Int)):=qR (xs:=[x]) (vs:=[_]) ho.1 ⟨ho.2,trivial⟩ λ_=>amg rfl hu
theorem znl (ho:o.op= .nilCheck x:=by exact rfl) (hx:ev l x=some p:=by exact rfl) (hp:match p with | .pointer (some _)=>True | .func (.func _) _ _=>True | .func (.via ..) _ _=>True | _=>False:=by exact trivial):jy P N l o w p:=avK ho hx hp
section
variable {kd:IntKind} {xo yo:Operand} {x y:Int}
def zRC (x y:Int):Bool->BinOp->Prop
 | true,.lss=>x<y
 | false,.lss=> ¬ x<y
 | true,.leq=>x<=y
 | false,.leq=> ¬ x<=y
 | true,.gtr=>y<x
 | false,.gtr=> ¬ y<x
 | true,.geq=>y<=x
 | false,.geq=> ¬ y<=x
 | true,.eql=>x=y
 | false,.eql=> ¬ x=y
 | true,.neq=> ¬ x=y
 | false,.neq=>x=y
 | _,_=>False
theorem zcm {q:Bool} {op:BinOp} (ho:o.op= .binOp op t xo yo tt/\ev l xo=some (.int kd x)/\ev l yo=some (.int kd y):=by exact ⟨rfl,rfl,rfl⟩) (h:zRC x y q op:=by dsimp only [zRC]<;>first | assumption | decide):jy P N l o w (.bool q):=by
 refine bE ho.1 ho.2.1 ho.2.2 ?_
 cases q<;>cases op<;>first | exact h.elim | exact Y0 h | exact Y1 h | exact ajy h | exact ajz h | exact ajA h | exact ajB h | exact ajC h | exact ajD h | exact Y2 h | exact Y3 h | exact Y4 h | exact PY h
theorem zco {q:Bool} {op:BinOp} (ho:o.op= .binOp op t xo yo tt/\ev l xo=some (.int kd x)/\ev l yo=some (.int kd y):=by exact ⟨rfl,rfl,rfl⟩) (h:zRC x y q op:=by dsimp only [zRC]<;>omega):jy P N l o w (.bool q):=zcm ho h
end
theorem asQ {P:Program} {w:World} {t:TypeId} {xo yo:Operand} {a b:ByteArray} {q:Bool} (h:(a.toList==b.toList)=q):(do eqGuard .eql t xo yo (.string a) (.string b);binOp .eql t (.string a) (.string b):Sem Value).run P w= .ok (.bool q) w:=by
 subst h;simp [binOp,eqGuard_at_string,go_sem,Op.stringOp]
theorem azq {xo yo:Operand} {a b:ByteArray} (ho:o.op= .binOp .eql t xo yo tt/\ev l xo=some (.string a)/\ev l yo=some (.string b):=by exact ⟨rfl,rfl,rfl⟩) (h:(a.toList==b.toList)=true:=by decide+kernel):jy P N l o w (.bool true):=bE ho.1 ho.2.1 ho.2.2 (asQ h)
theorem azr {xo yo:Operand} {a b:ByteArray} (ho:o.op= .binOp .eql t xo yo tt/\ev l xo=some (.string a)/\ev l yo=some (.string b):=by exact ⟨rfl,rfl,rfl⟩) (h:(a.toList==b.toList)=false:=by decide+kernel):jy P N l o w (.bool false):=bE ho.1 ho.2.1 ho.2.2 (asQ h)
end
end
abbrev JJ (t:TypeId) (v:Value):Prop:= ∀ w,(Instr.build t ([]:List (Nat×Value)).toArray).run Tryz.prog w= .ok v w
theorem azs:JJ 27 (.agg #[iV 0,iV 0]):=λ_=>kQ
theorem azt:JJ 30 (.agg #[iV 0,iV 0,iV 0,iV 0,iV 0,iV 0,iV 0,iV 0]):=λ_=>kQ
theorem azu:JJ 35 (.agg #[iV 0,.bool false,.bool false,.bool false,.bool false,.bool false,iV 0,iV 0,iV 0,iV 0,iV 0,iV 0,iV 0,iV 0,.slice none 0 0,.slice none 0 0,.slice none 0 0,iV 0]):=λ_=>kQ
theorem azv:JJ 57 (.agg #[iV 0,iV 0,iV 0,iV 0,iV 0,.slice none 0 0]):=λ_=>kQ
theorem azw:JJ 44 (.agg #[iV 0,.bool false,.bool false,.bool false,.bool false,.bool false,.bool false,.bool false,.bool false]):=λ_=>kQ
theorem azx:JJ 65 (.agg #[iV 0,iV 0,iV 0,iV 0,iV 0,iV 0]):=λ_=>kQ
theorem azy:JJ 71 (.agg #[iV 0,iV 0,iV 0,iV 0,iV 0,iV 0,iV 0,iV 0,iV 0,iV 0,iV 0]):=λ_=>kQ
theorem azz:JJ 67 (.agg #[iV 0,iV 0,iV 0,iV 0]):=λ_=>kQ
theorem azA:JJ 138 (.agg #[iV 0,iV 0,iV 0,iV 0,iV 0,iV 0,iV 0]):=λ_=>kQ
theorem azB:JJ 87 (.agg #[iV 0,iV 0]):=λ_=>kQ
theorem azC:JJ 89 (.agg #[iV 0,iV 0,iV 0,iV 0]):=λ_=>kQ
theorem av9:JJ 101 (.agg #[iV 0,iV 0]):=λ_=>kQ
theorem awc:JJ 109 (.agg #[.slice none 0 0,iV 0]):=λ_=>kQ
theorem awd:JJ 113 (.agg #[iV 0,.bool false,.slice none 0 0,iV 0,.slice none 0 0,iV 0,iV 0,iV 0,iV 0,iV 0,iV 0,iV 0,iV 0,.bool false,.bool false,.bool false,.bool false,.slice none 0 0,.nilFunc,iV 0]):=λ_=>kQ
theorem awe:JJ 133 (.agg #[.pointer none,iV 0]):=λ_=>kQ
theorem awf:JJ 140 (.agg #[iV 0,iV 0,iV 0,iV 0,iV 0,iV 0,iV 0,iV 0,iV 0,iV 0,iV 0,iV 0,iV 0,.slice none 0 0,.bool false,iV 0,iV 0,iV 0,iV 0,iV 0,iV 0,iV 0,iV 0]):=λ_=>kQ
theorem awg:JJ 171 (.agg #[iV 0,iV 0,iV 0,iV 0,iV 0,iV 0,iV 0,iV 0,iV 0,iV 0]):=λ_=>kQ
section
variable {P:Program} {N:Nat} {l l':Slots} {w w' w0:World} {ops:Array Oper} {o:Oper} {rest:List Oper} {Q:Exit->Act->World->Prop} {d B:Nat} {v p:Value} {fs fs':List Fact} {ex:Exit}
section
variable {x y:Operand} {t tt s:TypeId} {ds:TypeDesc} {b k f o0 n c m:Nat} {g:Nat->Nat} {row:Array Value} {A:Option Addr} {e:TypeId}
theorem ybz {row:Array Value} (ho:o.op= .build t ([]:List (Nat×Operand)).toArray:=by exact rfl) (hr: ∀ w,(Instr.build t ([]:List (Nat×Value)).toArray).run P w= .ok (.agg row) w:=by with_reducible first | exact azs | exact azt | exact azu | exact azv | exact azw | exact azx | exact azy | exact azz | exact azA | exact azB | exact azC | exact av9 | exact awc | exact awd | exact awe | exact awf | exact awg):jy P N l o w (.agg row):=En (vs:=[]) ho trivial (hr w)
theorem y0Q (hy:jy P N l o w v:=by first | exact ym | exact ya | exact yx | exact yno | exact znl | exact zfa | exact zld | exact zlr | exact zln | exact ypT | exact ypF | exact ybz | exact azq | exact azr | exact zcm (q:=true) | exact zcm (q:=false) | exact zco (q:=true) | exact zco (q:=false)):jy P N l o w v:=hy
end
inductive wJ:Nat->List Bool->Nat->List Bool->Prop
 | z {l:List Bool}:wJ 0 (false::l) 0 (true::l)
 | t {k i:Nat} {l l':List Bool}:wJ k l i l'->wJ k (true::l) (i+1) (true::l')
 | f {k i:Nat} {l l':List Bool}:wJ k l i l'->wJ (k+1) (false::l) (i+1) (false::l')
theorem nfQ {k i:Nat} {l l':List Bool} (h:wJ k l i l':=by repeat' first | exact wJ.z | apply wJ.t | apply wJ.f):wJ k l i l':=h
theorem wJ.eq {k i:Nat} {l l':List Bool} (h:wJ k l i l'):l.toArray.setIfInBounds i true=l'.toArray:=by
 suffices h2:l.set i true=l' by simp [h2]
 induction h with
 | z=>rfl
 | t _ ih=>rw [List.set_cons_succ,ih]
 | f _ ih=>rw [List.set_cons_succ,ih]
inductive AB:List Bool->Nat->List Bool->Prop
 | z {b:Bool} {l:List Bool}:AB (b::l) 0 (true::l)
 | s {b:Bool} {i:Nat} {l l':List Bool}:AB l i l'->AB (b::l) (i+1) (b::l')
theorem slQ {i:Nat} {l l':List Bool} (h:AB l i l':=by repeat' first | exact AB.z | apply AB.s):AB l i l':=h
theorem AB.eq {i:Nat} {l l':List Bool} (h:AB l i l'):l.toArray.setIfInBounds i true=l'.toArray:=by
 suffices h2:l.set i true=l' by simp [h2]
 induction h with
 | z=>rfl
 | s _ ih=>rw [List.set_cons_succ,ih]
def Step (A B:Prop):Prop:=B->A
section
variable {C:World->Prop} {Qa:Act->Prop} {j:Nat} {t:Nat} {u:Value} {b:Bool}
theorem q1Q (hw:gN o d N:=by exact ⟨rfl,rfl,rfl⟩) (hy:jy P N l o w v:=by exact y0Q):Step (wL P N ops Q (o::rest) l w) (wL P N ops Q rest ((d,v)::l) w):=λh=>FK (wn hw.1) hw.2.1 hw.2.2 hy h
theorem q2Q (hg:gS o ops j b t:=by exact ⟨rfl,rfl⟩) (hv:lk l t=some u:=by exact rfl) (hr:gY u b true o d N:=by exact ⟨rfl,rfl,rfl⟩) (hy:jy P N l o w v:=by exact y0Q):Step (wL P N ops Q (o::rest) l w) (wL P N ops Q rest ((d,v)::l) w):=λh=>FK (wg hg.1 hg.2 hv hr.1) hr.2.1 hr.2.2 hy h
theorem q3Q (hw:gN o d N:=by exact ⟨rfl,rfl,rfl⟩) (hy: ∀ w,C w->jy P N l o w v:=by (intro w S;exact y0Q)):Step (wU P N ops C Qa (o::rest) l) (wU P N ops C Qa rest ((d,v)::l)):=λh=>NR (wn hw.1) hw.2.1 hw.2.2 hy h
theorem q4Q (hg:gS o ops j b t:=by exact ⟨rfl,rfl⟩) (hv:lk l t=some u:=by exact rfl) (hr:gY u b true o d N:=by exact ⟨rfl,rfl,rfl⟩) (hy: ∀ w,C w->jy P N l o w v:=by (intro w S;exact y0Q)):Step (wU P N ops C Qa (o::rest) l) (wU P N ops C Qa rest ((d,v)::l)):=λh=>NR (wg hg.1 hg.2 hv hr.1) hr.2.1 hr.2.2 hy h
theorem St.fit {gs:List Fact} (S:St B w0 w gs) (h:Dl fs gs:=by repeat' first | exact Dl.r | exact Dl.a | apply Dl.k | apply Dl.d):St B w0 w fs:=S.sub h.sub
theorem cwQ {G:Prop} (h:G:=by first | assumption | exact St.fit ‹_›):G:=h
abbrev gR (ops:Array Oper) (ls:List Bool) (i:Nat):Prop:=Region.noSelect ops=true/\Region.free .any ops ls.toArray i=true/\(Region.ready .any ops ls.toArray).contains i=true
section
variable {n m i:Nat} {listed listed':Array Bool}
theorem Zf {ls ls':List Bool} (q:Nat) (hl:wJ q ls i ls':=by exact nfQ) (hi:ops[i]? =some o:=by exact rfl) (hw:gN o d N:=by exact ⟨rfl,rfl,rfl⟩) (hy: ∀ w,C w->jy P N l o w v:=by (intro w S;exact y0Q)) (hS:C w:=by exact cwQ) (hs:gR ops ls i:=by exact ⟨kQ,kQ,kQ⟩):Step (wA P N ops Q C (n+1) ls.toArray l w) (wA P N ops Q C n ls'.toArray ((d,v)::l) w):=λh=>Eo hi hs.1 hs.2.1 hs.2.2 hS hl.eq (wn hw.1) hw.2.1 hw.2.2 hy h
theorem Zg {ls ls':List Bool} (q:Nat) (hl:wJ q ls i ls':=by exact nfQ) (hi:ops[i]? =some o:=by exact rfl) (hw:gN o d N:=by exact ⟨rfl,rfl,rfl⟩) (hy: ∀ w,C w->jy P N l o w v:=by (intro w S;exact y0Q)) (hS:C w:=by exact cwQ) (hs:gR ops ls i:=by exact ⟨kQ,kQ,kQ⟩) (hnl:ls.toArray.getD n true=false:=by exact rfl) (hni:xV ops n i=true:=by kernel_rfl) (hne:Nat.beq n i=false:=by exact rfl):Step (wG P N ops Q C n (m+1) ls.toArray l w) (wG P N ops Q C n m ls'.toArray ((d,v)::l) w):=λh=>Er hi hs.1 hs.2.1 hs.2.2 hnl hni hne hS hl.eq (wn hw.1) hw.2.1 hw.2.2 hy h
theorem Zh {ls ls':List Bool} (q:Nat) (hl:wJ q ls i ls':=by exact nfQ) (hi:ops[i]? =some o:=by exact rfl) (hg:gS o ops j b t:=by exact ⟨rfl,rfl⟩) (hv:lk l t=some u:=by exact rfl) (hr0:gY u b true o d N:=by exact ⟨rfl,rfl,rfl⟩) (hy: ∀ w,C w->jy P N l o w v:=by (intro w S;exact y0Q)) (hS:C w:=by exact cwQ) (hs:gR ops ls i:=by exact ⟨kQ,kQ,kQ⟩):Step (wA P N ops Q C (n+1) ls.toArray l w) (wA P N ops Q C n ls'.toArray ((d,v)::l) w):=λh=>Eo hi hs.1 hs.2.1 hs.2.2 hS hl.eq (wg hg.1 hg.2 hv hr0.1) hr0.2.1 hr0.2.2 hy h
theorem Zi {ls ls':List Bool} (q:Nat) (hl:wJ q ls i ls':=by exact nfQ) (hi:ops[i]? =some o:=by exact rfl) (hg:gS o ops j b t:=by exact ⟨rfl,rfl⟩) (hv:lk l t=some u:=by exact rfl) (hr0:gY u b false o d N:=by exact ⟨rfl,rfl,rfl⟩) (hS:C w:=by exact cwQ) (hs:gR ops ls i:=by exact ⟨kQ,kQ,kQ⟩):Step (wA P N ops Q C (n+1) ls.toArray l w) (wA P N ops Q C n ls'.toArray ((d,undef)::l) w):=λh=>BD hi hs.1 hs.2.1 hs.2.2 hS hl.eq (wg hg.1 hg.2 hv hr0.1) hr0.2.1 hr0.2.2 h
theorem Zj {ls ls':List Bool} (q:Nat) (hl:wJ q ls i ls':=by exact nfQ) (hi:ops[i]? =some o:=by exact rfl) (hg:gS o ops j b t:=by exact ⟨rfl,rfl⟩) (hv:lk l t=some u:=by exact rfl) (hr0:gY u b true o d N:=by exact ⟨rfl,rfl,rfl⟩) (hy: ∀ w,C w->jy P N l o w v:=by (intro w S;exact y0Q)) (hS:C w:=by exact cwQ) (hs:gR ops ls i:=by exact ⟨kQ,kQ,kQ⟩) (hnl:ls.toArray.getD n true=false:=by exact rfl) (hni:xV ops n i=true:=by kernel_rfl) (hne:Nat.beq n i=false:=by exact rfl):Step (wG P N ops Q C n (m+1) ls.toArray l w) (wG P N ops Q C n m ls'.toArray ((d,v)::l) w):=λh=>Er hi hs.1 hs.2.1 hs.2.2 hnl hni hne hS hl.eq (wg hg.1 hg.2 hv hr0.1) hr0.2.1 hr0.2.2 hy h
theorem IV {ls ls':List Bool} (q:Nat) (hl:wJ q ls i ls':=by exact nfQ) (hi:ops[i]? =some o:=by exact rfl) (hg:gS o ops j b t:=by exact ⟨rfl,rfl⟩) (hv:lk l t=some u:=by exact rfl) (hr0:gY u b false o d N:=by exact ⟨rfl,rfl,rfl⟩) (hS:C w:=by exact cwQ) (hs:gR ops ls i:=by exact ⟨kQ,kQ,kQ⟩) (hnl:ls.toArray.getD n true=false:=by exact rfl) (hni:xV ops n i=true:=by kernel_rfl) (hne:Nat.beq n i=false:=by exact rfl):Step (wG P N ops Q C n (m+1) ls.toArray l w) (wG P N ops Q C n m ls'.toArray ((d,undef)::l) w):=λh=>ajJ hi hs.1 hs.2.1 hs.2.2 hnl hni hne hS hl.eq (wg hg.1 hg.2 hv hr0.1) hr0.2.1 hr0.2.2 h
end
end
section
variable {fn:Func} {R:Ending->World->Prop} {i j k:Nat} {v1 v2 v3:Value} {ty t tt:TypeId} {b m:Nat} {row:Array Value} {ds:TypeDesc}
theorem p0Q (hr:fn.results=([]:List ResultVar).toArray:=by exact rfl):Step (wQ N (bodyPost P fn R) .ret l w) (R (.returned (q9 [])) w):=λhR=>dS (vs:=[]) hr trivial hR
theorem azD (hr:fn.results=([]:List ResultVar).toArray:=by exact rfl):Step (wQ N (bodyPost P fn R) .normal l w) (R (.returned (q9 [])) w):=λhR=>aV (vs:=[]) hr trivial hR
theorem p1Q (hr:fn.results=[ResultVar.tmp i].toArray:=by exact rfl) (h1:lk l i=some v1:=by exact rfl):Step (wQ N (bodyPost P fn R) .ret l w) (R (.returned (q9 [v1])) w):=λhR=>dS (vs:=[v1]) hr ⟨h1,trivial⟩ hR
theorem p2Q (hr:fn.results=[ResultVar.tmp i,ResultVar.tmp j].toArray:=by exact rfl) (h1:lk l i=some v1:=by exact rfl) (h2:lk l j=some v2:=by exact rfl):Step (wQ N (bodyPost P fn R) .ret l w) (R (.returned (q9 [v1,v2])) w):=λhR=>dS (vs:=[v1,v2]) hr ⟨h1,h2,trivial⟩ hR
theorem p3Q (hr:fn.results=[ResultVar.tmp i,ResultVar.tmp j,ResultVar.tmp k].toArray:=by exact rfl) (h1:lk l i=some v1:=by exact rfl) (h2:lk l j=some v2/\lk l k=some v3:=by exact ⟨rfl,rfl⟩):Step (wQ N (bodyPost P fn R) .ret l w) (R (.returned (q9 [v1,v2,v3])) w):=λhR=>dS (vs:=[v1,v2,v3]) hr ⟨h1,h2.1,h2.2,trivial⟩ hR
theorem azE (hr:fn.results=[ResultVar.cell i ty].toArray/\lk l i=some (.pointer (some ⟨b,0,none⟩)):=by exact ⟨rfl,rfl⟩) (S:St B w0 w fs:=by assumption) (hf:sS b fs row tt:=by exact fbQ) (hu:P.underlying ty=some ds:=by exact VG) (hd:ds.isRow=true:=by exact rfl) (hz:(P.info? ty).map (·.size)=some m:=by exact iiQ) (hm:row.size=m:=by exact rfl):Step (wQ N (bodyPost P fn R) .ret l w) (R (.returned (q9 [.agg row])) w):=λhR=>by
 obtain ⟨q,hq⟩:=hf.at_;exact dS (vs:=[.agg row]) hr.1 ⟨⟨_,hr.2,eT q S hq hu hd (by rw [hm];exact hz)⟩,trivial⟩ hR
theorem azF (hr:fn.results=[ResultVar.cell i ty,ResultVar.tmp j].toArray:=by exact rfl) (h1:lk l j=some v1:=by exact rfl) (hc:lk l i=some (.pointer (some ⟨b,0,none⟩)):=by exact rfl) (S:St B w0 w fs:=by assumption) (hf:sS b fs row tt:=by exact fbQ) (hu:P.underlying ty=some ds:=by exact VG) (hd:ds.isRow=true:=by exact rfl) (hz:(P.info? ty).map (·.size)=some m:=by exact iiQ) (hm:row.size=m:=by exact rfl):Step (wQ N (bodyPost P fn R) .ret l w) (R (.returned (q9 [.agg row,v1])) w):=λhR=>by
 obtain ⟨q,hq⟩:=hf.at_;exact dS (vs:=[.agg row,v1]) hr ⟨⟨_,hc,eT q S hq hu hd (by rw [hm];exact hz)⟩,h1,trivial⟩ hR
theorem azG (hr:fn.results=[ResultVar.cell i ty,ResultVar.tmp j,ResultVar.tmp k].toArray:=by exact rfl) (h1:lk l j=some v1:=by exact rfl) (h2:lk l k=some v2/\lk l i=some (.pointer (some ⟨b,0,none⟩)):=by exact ⟨rfl,rfl⟩) (S:St B w0 w fs:=by assumption) (hf:sS b fs row tt:=by exact fbQ) (hu:P.underlying ty=some ds:=by exact VG) (hd:ds.isRow=true:=by exact rfl) (hz:(P.info? ty).map (·.size)=some m:=by exact iiQ) (hm:row.size=m:=by exact rfl):Step (wQ N (bodyPost P fn R) .ret l w) (R (.returned (q9 [.agg row,v1,v2])) w):=λhR=>by
 obtain ⟨q,hq⟩:=hf.at_;exact dS (vs:=[.agg row,v1,v2]) hr ⟨⟨_,h2.2,eT q S hq hu hd (by rw [hm];exact hz)⟩,h1,h2.1,trivial⟩ hR
theorem azH {r:Nat} (hr:fn.results=[ResultVar.cell i ty,ResultVar.tmp j,ResultVar.tmp k,ResultVar.tmp r].toArray:=by exact rfl) (h1:lk l j=some v1:=by exact rfl) (h2:lk l k=some v2/\lk l r=some v3/\lk l i=some (.pointer (some ⟨b,0,none⟩)):=by exact ⟨rfl,rfl,rfl⟩) (S:St B w0 w fs:=by assumption) (hf:sS b fs row tt:=by exact fbQ) (hu:P.underlying ty=some ds:=by exact VG) (hd:ds.isRow=true:=by exact rfl) (hz:(P.info? ty).map (·.size)=some m:=by exact iiQ) (hm:row.size=m:=by exact rfl):Step (wQ N (bodyPost P fn R) .ret l w) (R (.returned (q9 [.agg row,v1,v2,v3])) w):=λhR=>by
 obtain ⟨q,hq⟩:=hf.at_;exact dS (vs:=[.agg row,v1,v2,v3]) hr ⟨⟨_,h2.2.2,eT q S hq hu hd (by rw [hm];exact hz)⟩,h1,h2.1,h2.2.1,trivial⟩ hR
end
theorem gLQ {B:Prop} (h:Step (wL P N ops Q rest l w) B):Step (wL P N ops Q rest l w) B:=h
theorem gQQ {B:Prop} (h:Step (wQ N Q ex l w) B):Step (wQ N Q ex l w) B:=h
theorem gUQ {B:Prop} {C:World->Prop} {Qa:Act->Prop} (h:Step (wU P N ops C Qa rest l) B):Step (wU P N ops C Qa rest l) B:=h
theorem gAQ {B:Prop} {C:World->Prop} {n:Nat} {ls:List Bool} (h:Step (wA P N ops Q C (n+1) ls.toArray l w) B):Step (wA P N ops Q C (n+1) ls.toArray l w) B:=h
theorem gGQ {B:Prop} {C:World->Prop} {n m:Nat} {ls:List Bool} (h:Step (wG P N ops Q C n (m+1) ls.toArray l w) B):Step (wG P N ops Q C n (m+1) ls.toArray l w) B:=h
section
variable {K:Act->World->Prop} {x y:Code} {id:Nat} {os:List Oper} {c:Operand} {C:World->Prop} {Qa:Act->Prop} {j t n:Nat} {u:Value} {b:Bool} {listed:Array Bool} {A B:Prop}
theorem s1Q:Step (wQ N (Exit.then (y.wp P Q) Q) .normal l w) (wC P N y Q l w):=gF
theorem s2Q:Step (wC P N (.seq x y) Q l w) (wC P N x (Exit.then (y.wp P Q) Q) l w):=aH
theorem s3Q:Step (wC P N (.region id os.toArray false) Q l w) (wL P N os.toArray Q os l w):=ay
theorem s4Q:Step (wC P N .skip Q l w) (wQ N Q .normal l w):=pQ
theorem s5Q:Step (wC P N (.block id x) Q l w) (wC P N x (Exit.inBlock id Q) l w):=EO
theorem s6Q:Step (wQ N (Exit.inBlock id Q) .normal l w) (wQ N Q .normal l w):=iC
theorem s7Q:Step (wC P N .ret Q l w) (wQ N Q .ret l w):=nW
theorem s8Q:Step (wQ N (Exit.then K Q) .ret l w) (wQ N Q .ret l w):=ig
theorem s9Q:Step (wQ N (Exit.inBlock id Q) .ret l w) (wQ N Q .ret l w):=XA
theorem azI:Step (wC P N (.exit id) Q l w) (wQ N Q (.exit id) l w):=ajw
theorem azJ:Step (wQ N (Exit.then K Q) (.exit id) l w) (wQ N Q (.exit id) l w):=Qy
theorem azK:Step (wQ N (Exit.inBlock id Q) (.exit id) l w) (wQ N Q .normal l w):=Uo
theorem azL:Step (wL P N ops Q [] l w) (wQ N Q .normal l w):=aeg
theorem azM (hc:ev l c=some (.bool true)):Step (wC P N (.cond c x y) Q l w) (wC P N x Q l w):=lY hc
theorem azN (hc:ev l c=some (.bool false)):Step (wC P N (.cond c x y) Q l w) (wC P N y Q l w):=kM hc
theorem azO (hg:gS o ops j b t:=by exact ⟨rfl,rfl⟩) (hv:lk l t=some u:=by exact rfl) (hr:gY u b false o d N:=by exact ⟨rfl,rfl,rfl⟩):Step (wL P N ops Q (o::rest) l w) (wL P N ops Q rest ((d,undef)::l) w):=YZ (wg hg.1 hg.2 hv hr.1) hr.2.1 hr.2.2
theorem azP (hg:gS o ops j b t:=by exact ⟨rfl,rfl⟩) (hv:lk l t=some u:=by exact rfl) (hr:gY u b false o d N:=by exact ⟨rfl,rfl,rfl⟩):Step (wU P N ops C Qa (o::rest) l) (wU P N ops C Qa rest ((d,undef)::l)):=ajG (wg hg.1 hg.2 hv hr.1) hr.2.1 hr.2.2
theorem azQ (hr:Region.ready .any ops listed=[]):Step (wA P N ops Q C n listed l w) (wQ N Q .normal l w):=ajH hr
theorem asR {G:Prop} (h:G:=by exact cwQ):Step (G/\A) A:=And.intro h
end
inductive Steps:Nat->Prop->Prop->Prop
 | z {A:Prop}:Steps 0 A A
 | s {n:Nat} {A B C:Prop}:Step A B->Steps n B C->Steps (n+1) A C
theorem Steps.go {n:Nat} {A B:Prop} (h:Steps n A B):B->A:=by
 induction h with
 | z=>exact id
 | s h _ ih=>exact λb=>h (ih b)
theorem sQ {A B:Prop} (hs:Step A B:=by first | with_reducible exact azL | ((with_reducible apply gLQ);first | exact q1Q | exact q2Q | exact azO) | with_reducible exact s1Q | with_reducible exact s2Q | with_reducible exact s3Q | with_reducible exact s4Q | with_reducible exact s5Q | with_reducible exact s6Q | with_reducible exact s7Q | with_reducible exact s8Q | with_reducible exact s9Q | with_reducible exact azI | with_reducible exact azJ | with_reducible exact azK | ((with_reducible refine azM ?_);exact rfl) | ((with_reducible refine azN ?_);exact rfl) | ((with_reducible apply gUQ);first | exact q3Q | exact q4Q | exact azP) | ((with_reducible apply gQQ);first | exact p1Q | exact azF | exact p2Q | exact azE | exact p3Q | exact azG | exact p0Q | exact azD | exact azH)):Step A B:=hs
theorem zQ {A B:Prop} (h:B) (hs:Step A B:=by exact sQ):A:=hs h
theorem zN {A B:Prop} (n:Nat) (h:B) (hs:Steps n A B:=by repeat' first | exact Steps.z | apply Steps.s | exact sQ):A:=hs.go h
theorem sQa {A B:Prop} (hs:Step A B:=by first | ((with_reducible apply gAQ);first | exact Zf 0 | exact Zh 0 | exact Zi 0 | exact Zf 1 | exact Zh 1 | exact Zi 1 | exact Zf 2 | exact Zh 2 | exact Zi 2 | exact Zf 3 | exact Zh 3 | exact Zi 3 | exact Zf 4 | exact Zh 4 | exact Zi 4 | exact Zf 5 | exact Zh 5 | exact Zi 5 | exact Zf 6 | exact Zh 6 | exact Zi 6 | exact Zf 7 | exact Zh 7 | exact Zi 7 | exact Zf 8 | exact Zh 8 | exact Zi 8 | exact Zf 9 | exact Zh 9 | exact Zi 9) | ((with_reducible apply azQ);kernel_rfl) | exact asR):Step A B:=hs
theorem cO {A B:Prop} (h:B) (hs:Step A B:=by exact sQa):A:=hs h
theorem aL {A B:Prop} (n:Nat) (h:B) (hs:Steps n A B:=by repeat' first | exact Steps.z | apply Steps.s | exact sQa):A:=hs.go h
theorem gU {A B:Prop} (h:B) (hs:Step A B:=by first | ((with_reducible apply gGQ);first | exact Zg 0 | exact Zj 0 | exact IV 0 | exact Zg 1 | exact Zj 1 | exact IV 1 | exact Zg 2 | exact Zj 2 | exact IV 2 | exact Zg 3 | exact Zj 3 | exact IV 3 | exact Zg 4 | exact Zj 4 | exact IV 4 | exact Zg 5 | exact Zj 5 | exact IV 5 | exact Zg 6 | exact Zj 6 | exact IV 6 | exact Zg 7 | exact Zj 7 | exact IV 7 | exact Zg 8 | exact Zj 8 | exact IV 8 | exact Zg 9 | exact Zj 9 | exact IV 9) | exact asR):A:=hs h
section
variable {t:TypeId} {row:Array Value}
def uz (P:Program) (t:TypeId) (row:Array Value):Prop:= ∃ z,(∀ w,(zeroValue t).run P w= .ok z w)/\z.cells=row
theorem gq (S:St B w0 w fs) (hz:uz P t row) (h: ∀ b w',St B w0 w' (.blk b row t::fs)->wL P N ops Q rest ((d,.pointer (some ⟨b,0,none⟩))::l) w') (hw:gM o d N (o.op= .alloc t):=by exact ⟨rfl,rfl,rfl,rfl⟩):wL P N ops Q (o::rest) l w:=by
 obtain ⟨z,h1,h2⟩:=hz;exact jC (V:=λb=> .pointer (some ⟨b,0,none⟩)) S (wn hw.1) hw.2.1 hw.2.2.1 (dO hw.2.2.2 (h1 w) h2) h
theorem lH {C:World->Prop} {n:Nat} {ls ls':List Bool} (j:Nat) (hi':ops[j]? =some o) (S:St B w0 w fs) (hz:uz P t row) (h: ∀ b w',St B w0 w' (.blk b row t::fs)->C w'/\wA P N ops Q C n ls'.toArray ((d,.pointer (some ⟨b,0,none⟩))::l) w') (hl:AB ls j ls':=by exact slQ) (hw:gM o d N (o.op= .alloc t):=by exact ⟨rfl,rfl,rfl,rfl⟩):wK P N ops Q C n j ls.toArray l w:=by
 obtain ⟨z,h1,h2⟩:=hz;exact gW (V:=λb=> .pointer (some ⟨b,0,none⟩)) hi' hl.eq S (wn hw.1) hw.2.1 hw.2.2.1 (dO hw.2.2.2 (h1 w) h2) h
end
theorem zr3:uz Tryz.prog 3 #[iV 0]:=⟨_,Tryz.zeroValue3,rfl⟩
theorem GA:uz Tryz.prog 27 #[iV 0,iV 0]:=⟨_,Tryz.zeroValue27,rfl⟩
theorem ahU:uz Tryz.prog 30 #[iV 0,iV 0,iV 0,iV 0,iV 0,iV 0,iV 0,iV 0]:=⟨_,Tryz.zeroValue30,rfl⟩
theorem ahV:uz Tryz.prog 35 #[iV 0,.bool false,.bool false,.bool false,.bool false,.bool false,iV 0,iV 0,iV 0,iV 0,iV 0,iV 0,iV 0,iV 0,.slice none 0 0,.slice none 0 0,.slice none 0 0,iV 0]:=⟨_,Tryz.zeroValue35,rfl⟩
theorem fP:uz Tryz.prog 57 #[iV 0,iV 0,iV 0,iV 0,iV 0,.slice none 0 0]:=⟨_,Tryz.zeroValue57,rfl⟩
theorem anN:uz Tryz.prog 44 #[iV 0,.bool false,.bool false,.bool false,.bool false,.bool false,.bool false,.bool false,.bool false]:=⟨_,Tryz.zeroValue44,rfl⟩
theorem aaI:uz Tryz.prog 65 #[iV 0,iV 0,iV 0,iV 0,iV 0,iV 0]:=⟨_,Tryz.zeroValue65,rfl⟩
theorem ahW:uz Tryz.prog 71 #[iV 0,iV 0,iV 0,iV 0,iV 0,iV 0,iV 0,iV 0,iV 0,iV 0,iV 0]:=⟨_,Tryz.zeroValue71,rfl⟩
theorem sZ:uz Tryz.prog 67 #[iV 0,iV 0,iV 0,iV 0]:=⟨_,Tryz.zeroValue67,rfl⟩
theorem azR:uz Tryz.prog 138 #[iV 0,iV 0,iV 0,iV 0,iV 0,iV 0,iV 0]:=⟨_,Tryz.zeroValue138,rfl⟩
theorem azS:uz Tryz.prog 87 #[iV 0,iV 0]:=⟨_,Tryz.zeroValue87,rfl⟩
theorem asS:uz Tryz.prog 89 #[iV 0,iV 0,iV 0,iV 0]:=⟨_,Tryz.zeroValue89,rfl⟩
theorem zI:uz Tryz.prog 109 #[.slice none 0 0,iV 0]:=⟨_,Tryz.zeroValue109,rfl⟩
theorem awh:uz Tryz.prog 113 #[iV 0,.bool false,.slice none 0 0,iV 0,.slice none 0 0,iV 0,iV 0,iV 0,iV 0,iV 0,iV 0,iV 0,iV 0,.bool false,.bool false,.bool false,.bool false,.slice none 0 0,.nilFunc,iV 0]:=⟨_,Tryz.zeroValue113,rfl⟩
theorem FR:uz Tryz.prog 133 #[.pointer none,iV 0]:=⟨_,Tryz.zeroValue133,rfl⟩
theorem adX:uz Tryz.prog 140 #[iV 0,iV 0,iV 0,iV 0,iV 0,iV 0,iV 0,iV 0,iV 0,iV 0,iV 0,iV 0,iV 0,.slice none 0 0,.bool false,iV 0,iV 0,iV 0,iV 0,iV 0,iV 0,iV 0,iV 0]:=⟨_,Tryz.zeroValue140,rfl⟩
theorem xE:uz Tryz.prog 171 #[iV 0,iV 0,iV 0,iV 0,iV 0,iV 0,iV 0,iV 0,iV 0,iV 0]:=⟨_,Tryz.zeroValue171,rfl⟩
theorem awi:uz Tryz.prog 224 #[.nilFunc]:=⟨_,Tryz.zeroValue224,rfl⟩
theorem lZ {a b:Nat} (h:a<=b:=by first | assumption | exact Nat.zero_le _ | (dsimp only;omega) | (simp only [List.length_append,List.length_cons,List.length_nil,List.length_drop,List.length_take] at*;omega)):a<=b:=h
inductive Out:List Fact->Nat->Fact->List Fact->Prop
 | z {f:Fact} {fs:List Fact}:Out (f::fs) 0 f fs
 | s {f g:Fact} {fs gs:List Fact} {i:Nat}:Out fs i f gs->Out (g::fs) (i+1) f (g::gs)
theorem Out.eq {fs gs:List Fact} {i:Nat} {f:Fact} (h:Out fs i f gs):fs[i]? =some f/\fs.eraseIdx i=gs:=by
 induction h with
 | z=>exact ⟨rfl,rfl⟩
 | s _ ih=>exact ⟨by simpa using ih.1,by rw [List.eraseIdx_cons_succ,ih.2]⟩
inductive Brs:List Fact->List Nat->List Fact->Prop
 | z {fs:List Fact}:Brs fs [] fs
 | s {fs gs hs:List Fact} {i:Nat} {is:List Nat} {f:Fact}:Out fs i f gs->Brs (f::gs) is hs->Brs fs (i::is) hs
theorem St.eG {gs:List Fact} (S:St B w0 w fs) (is:List Nat) (h:Brs fs is gs:=by repeat' first | exact Brs.z | exact Out.z | apply Brs.s | apply Out.s):St B w0 w gs:=by
 induction h with
 | z=>exact S
 | s h _ ih=>
  obtain ⟨h1,h2⟩:=h.eq;have:=S.bring _ h1;rw [h2] at this;exact ih this
inductive Zk:List Fact->List Nat->List Fact->Prop
 | z {fs:List Fact}:Zk fs [] fs
 | s {fs gs hs:List Fact} {i:Nat} {is:List Nat} {f:Fact}:Out fs i f gs->Zk gs is hs->Zk fs (i::is) hs
theorem dlQ {fs gs:List Fact} {is:List Nat} (h:Zk fs is gs:=by repeat' first | exact Zk.z | exact Out.z | apply Zk.s | apply Out.s):Zk fs is gs:=h
theorem St.aP {gs:List Fact} (S:St B w0 w fs) (is:List Nat) (h:Zk fs is gs:=by exact dlQ):St B w0 w gs:=by
 induction h with
 | z=>exact S
 | s h _ ih=>
  refine ih ?_;rw [<-h.eq.2];exact S.del _
section
variable {id n m:Nat} {os:List Oper} {gs:List Fact}
theorem aN (n:Nat) (S:St B w0 w.drew gs) (is:List Nat) (h:wA P N os.toArray Q (λw'=>St B w0 w' fs) n (List.replicate n false).toArray l w.drew) (hd:Zk gs is fs:=by exact dlQ) (hm:P.follows .mixedOrders=true:=by exact mixed) (hn:os.length=n:=by exact rfl):wC P N (.region id os.toArray true) Q l w:=IQ hm hn iQ h
theorem fC (m n:Nat) (S:St B w0 w.drew gs) (is:List Nat) (h:wG P N os.toArray Q (λw'=>St B w0 w' fs) n m (List.replicate m false).toArray l w.drew) (hd:Zk gs is fs:=by exact dlQ) (hm:P.follows .mixedOrders=true:=by exact mixed) (hn:os.length=m:=by exact rfl):wC P N (.region id os.toArray true) Q l w:=BF n hm hn iQ h
end
inductive Dm:List Value->Nat->List Value->List Value->Prop
 | n {l:List Value}:Dm l 0 [] l
 | c {x y:Value} {l cs l':List Value}:Dm l 0 cs l'->Dm (x::l) 0 (y::cs) (y::l')
 | s {x:Value} {i:Nat} {l cs l':List Value}:Dm l i cs l'->Dm (x::l) (i+1) cs (x::l')
theorem Dm.spec {l cs l':List Value} {i:Nat} (h:Dm l i cs l'):i+cs.length<=l.length/\l.take i++cs++l.drop (i+cs.length)=l':=by
 induction h with
 | n=>simp
 | c _ ih=>obtain ⟨h1,h2⟩:=ih;simp only [List.take_zero,List.nil_append,Nat.zero_add,List.length_cons,List.cons_append,List.drop_succ_cons] at h1 h2⊢;exact ⟨by omega,by rw [h2]⟩
 | @s x i l cs l' _ ih=>obtain ⟨h1,h2⟩:=ih;refine ⟨by simp;omega,?_⟩;rw [show i+1+cs.length=(i+cs.length)+1 by omega,List.take_succ_cons,List.drop_succ_cons,List.cons_append,List.cons_append,h2]
theorem Dm.eq {l cs l':List Value} {i:Nat} (h:Dm l i cs l'):cu l.toArray i cs=l'.toArray:=by
 obtain ⟨h1,h2⟩:=h.spec;apply Array.toList_inj.1;rw [iq _ _ _ (by simpa using h1)];simpa using h2
section
variable {b m off:Nat} {rw_ rw':List Value} {cs:Array Value} {t ty:TypeId} {x y:Operand}
theorem Hz (i:Nat) (S:St B w0 w fs) (hz:(P.info? ty).map (·.size)=some m) (h: ∀ w',St B w0 w' fs'->wL P N ops Q rest l w') (hw:o.guard=none/\o.dst=none/\o.op= .store ty x y/\ev l x=some (.pointer (some ⟨b,off,none⟩))/\ev l y=some v:=by exact ⟨rfl,rfl,rfl,rfl,rfl⟩) (hi:fs[i]? =some (.blk b rw_.toArray t):=by exact rfl) (hv:v.cells=cs:=by exact rfl) (hm:cs.size=m:=by exact rfl) (h1: ∀ u∈cs.toList,u.oneCell'=true:=by exact bM rfl) (hr:Nat.ble (off+m) rw_.toArray.size=true:=by exact rfl) (hs:Dm rw_ off cs.toList rw':=by repeat' first | exact Dm.n | apply Dm.c | apply Dm.s) (hf:iL (.blk b rw'.toArray t) fs i fs':=by repeat' first | exact iL.z | apply iL.s):wL P N ops Q (o::rest) l w:=FM i S (wn hw.1) hw.2.1 hw.2.2.1 hw.2.2.2.1 hw.2.2.2.2 hi hv hz hm h1 (Nat.le_of_ble_eq_true hr) hs.eq hf.eq h
end
section
variable {C:World->Prop} {n:Nat} {ls ls':List Bool} {row:Array Value} {t tt:TypeId} {x:Operand}
theorem iH (S:St B w0 w fs) (h: ∀ b w',St B w0 w' (.blk b row t::fs)->wL P N ops Q rest ((d,.pointer (some ⟨b,0,none⟩))::l) w') (hw:gM o d N (o.op= .box t x/\ev l x=some (.agg row)):=by exact ⟨rfl,rfl,rfl,rfl,rfl⟩):wL P N ops Q (o::rest) l w:=jC (V:=λb=> .pointer (some ⟨b,0,none⟩)) S (wn hw.1) hw.2.1 hw.2.2.1 (adQ hw.2.2.2.1 hw.2.2.2.2 rfl) h
theorem VH (S:St B w0 w fs) (h: ∀ b w',St B w0 w' (.blk b #[v] t::fs)->wL P N ops Q rest ((d,.pointer (some ⟨b,0,none⟩))::l) w') (hw:gM o d N (o.op= .box t x/\ev l x=some v):=by exact ⟨rfl,rfl,rfl,rfl,rfl⟩) (hv:v.cells= #[v]:=by exact rfl):wL P N ops Q (o::rest) l w:=jC (V:=λb=> .pointer (some ⟨b,0,none⟩)) S (wn hw.1) hw.2.1 hw.2.2.1 (adQ hw.2.2.2.1 hw.2.2.2.2 hv) h
theorem NY (S:St B w0 w fs) (h: ∀ b w',St B w0 w' (.blk b row tt::fs)->wL P N ops Q rest ((d,.slice (some ⟨b,0,none⟩) 1 1)::l) w') (hw:gM o d N (o.op= .buildSlice t 1 [(0,x)].toArray/\ev l x=some (.agg row)):=by exact ⟨rfl,rfl,rfl,rfl,rfl⟩) (hu:P.underlying t=some (.slice tt):=by exact VG) (hr:(Instr.buildSlice t 1 [(0,Value.agg row)].toArray).run P w= .ok (.slice (some ⟨w.heap.size,0,none⟩) 1 1) (w.alloc (.cells row tt)):=by kernel_rfl):wL P N ops Q (o::rest) l w:=jC (V:=λb=> .slice (some ⟨b,0,none⟩) 1 1) S (wn hw.1) hw.2.1 hw.2.2.1 (aS (vs:=[(0,.agg row)]) hw.2.2.2.1 ⟨rfl,hw.2.2.2.2,trivial⟩ hr) h
theorem bsI (S:St B w0 w fs) (h: ∀ b w',St B w0 w' (.blk b #[v] tt::fs)->wL P N ops Q rest ((d,.slice (some ⟨b,0,none⟩) 1 1)::l) w') (hw:gM o d N (o.op= .buildSlice t 1 [(0,x)].toArray/\ev l x=some v):=by exact ⟨rfl,rfl,rfl,rfl,rfl⟩) (hu:P.underlying t=some (.slice tt):=by exact VG) (hr:(Instr.buildSlice t 1 [(0,v)].toArray).run P w= .ok (.slice (some ⟨w.heap.size,0,none⟩) 1 1) (w.alloc (.cells #[v] tt)):=by kernel_rfl):wL P N ops Q (o::rest) l w:=jC (V:=λb=> .slice (some ⟨b,0,none⟩) 1 1) S (wn hw.1) hw.2.1 hw.2.2.1 (aS (vs:=[(0,v)]) hw.2.2.2.1 ⟨rfl,hw.2.2.2.2,trivial⟩ hr) h
theorem GD (j:Nat) (hi':ops[j]? =some o) (S:St B w0 w fs) (h: ∀ b w',St B w0 w' (.blk b row tt::fs)->C w'/\wA P N ops Q C n ls'.toArray ((d,.slice (some ⟨b,0,none⟩) 1 1)::l) w') (hl:AB ls j ls':=by exact slQ) (hw:gM o d N (o.op= .buildSlice t 1 [(0,x)].toArray/\ev l x=some (.agg row)):=by exact ⟨rfl,rfl,rfl,rfl,rfl⟩) (hu:P.underlying t=some (.slice tt):=by exact VG) (hr:(Instr.buildSlice t 1 [(0,Value.agg row)].toArray).run P w= .ok (.slice (some ⟨w.heap.size,0,none⟩) 1 1) (w.alloc (.cells row tt)):=by kernel_rfl):wK P N ops Q C n j ls.toArray l w:=gW (V:=λb=> .slice (some ⟨b,0,none⟩) 1 1) hi' hl.eq S (wn hw.1) hw.2.1 hw.2.2.1 (aS (vs:=[(0,.agg row)]) hw.2.2.2.1 ⟨rfl,hw.2.2.2.2,trivial⟩ hr) h
end
inductive xZ (l:Slots):List Operand->List Value->Prop
 | z:xZ l [] []
 | s {x:Operand} {xs:List Operand} {v:Value} {vs:List Value}:ev l x=some v->xZ l xs vs->xZ l (x::xs) (v::vs)
theorem xZ.evs {xs:List Operand} {vs:List Value} (h:xZ l xs vs):Qx l xs vs:=by
 induction h with
 | z=>exact trivial
 | s h _ ih=>exact ⟨h,ih⟩
section
variable {f:FuncId} {first cap us vs:List Value} {x:Operand} {xs ys:List Operand} {ts:Array TypeId} {R:Ending->World->Prop}
theorem wM (MV: ∀ args w,(callFunc f args).run P w= .ok (.enter f args) w) (hc:Calls P f us.toArray w R) (h: ∀ e w',R e w'-> ∃ v,e= .returned v/\wL P N ops Q rest ((d,v)::l) w') (hw:gM o d N (o.op= .call { callee:= .value x,args:=xs.toArray,argTypes:=ts }):=by exact ⟨rfl,rfl,rfl,rfl⟩) (hv:ev l x=some (.func (.func f) first.toArray cap.toArray):=by exact rfl) (hx:xZ l xs vs:=by repeat' first | exact xZ.z | apply xZ.s rfl) (hu:first++vs++cap=us:=by exact rfl):wL P N ops Q (o::rest) l w:=IL (wn hw.1) hw.2.1 hw.2.2.1 (Y7 hw.2.2.2 hv MV hx.evs hu) hc h
theorem mW {C:World->Prop} {n:Nat} {ls ls':List Bool} (j:Nat) (hi':ops[j]? =some o) (MV: ∀ args w,(callFunc f args).run P w= .ok (.enter f args) w) (hc:Calls P f us.toArray w R) (h: ∀ e w',R e w'-> ∃ v,e= .returned v/\C w'/\wA P N ops Q C n ls'.toArray ((d,v)::l) w') (hl:AB ls j ls':=by exact slQ) (hw:gM o d N (o.op= .call { callee:= .value x,args:=xs.toArray,argTypes:=ts }):=by exact ⟨rfl,rfl,rfl,rfl⟩) (hv:ev l x=some (.func (.func f) first.toArray cap.toArray):=by exact rfl) (hx:xZ l xs vs:=by repeat' first | exact xZ.z | apply xZ.s rfl) (hu:first++vs++cap=us:=by exact rfl):wK P N ops Q C n j ls.toArray l w:=xC hi' hl.eq (wn hw.1) hw.2.1 hw.2.2.1 (Y7 hw.2.2.2 hv MV hx.evs hu) hc h
theorem jI {C:World->Prop} {n:Nat} {ls ls':List Bool} (j:Nat) (hi':ops[j]? =some o) (MV: ∀ args w,(callFunc f args).run P w= .ok (.enter f args) w) (hc:Calls P f vs.toArray w R) (h: ∀ e w',R e w'-> ∃ v,e= .returned v/\C w'/\wA P N ops Q C n ls'.toArray ((d,v)::l) w') (hl:AB ls j ls':=by exact slQ) (hw:gM o d N (o.op= .call { callee:= .value (.func f),args:=xs.toArray,argTypes:=ts }):=by exact ⟨rfl,rfl,rfl,rfl⟩) (hx:Qx l xs vs:=by repeat' first | exact trivial | refine ⟨rfl,?_⟩):wK P N ops Q C n j ls.toArray l w:=xC hi' hl.eq (wn hw.1) hw.2.1 hw.2.2.1 (jd hw.2.2.2 MV hx) hc h
theorem JK {g:Fn} (ho:o.op= .makeFunc g xs.toArray ys.toArray:=by exact rfl) (hx:xZ l xs vs:=by repeat' first | exact xZ.z | apply xZ.s rfl) (hy:xZ l ys us:=by repeat' first | exact xZ.z | apply xZ.s rfl):jy P N l o w (.func g vs.toArray us.toArray):=KZ ho hx.evs hy.evs
end
inductive NZ (l:Slots):List (Nat×Operand)->List (Nat×Value)->Prop
 | z:NZ l [] []
 | s {i:Nat} {x:Operand} {xs:List (Nat×Operand)} {v:Value} {vs:List (Nat×Value)}:ev l x=some v->NZ l xs vs->NZ l ((i,x)::xs) ((i,v)::vs)
theorem NZ.evp {xs:List (Nat×Operand)} {vs:List (Nat×Value)} (h:NZ l xs vs):EvP l xs vs:=by
 induction h with
 | z=>exact trivial
 | s h _ ih=>exact ⟨rfl,h,ih⟩
theorem gD {t:TypeId} {xs:List (Nat×Operand)} {vs:List (Nat×Value)} (ho:o.op= .build t xs.toArray:=by exact rfl) (hx:NZ l xs vs:=by repeat' first | exact NZ.z | apply NZ.s rfl) (hr:(Instr.build t vs.toArray).run P w= .ok v w:=by kernel_rfl):jy P N l o w v:=En ho hx.evp hr
section
variable {kd:IntKind} {xo yo:Operand} {x y z:Int} {t tt:TypeId}
theorem fJ (ho:o.op= .binOp .add t xo yo tt/\ev l xo=some (.int .i64 x)/\ev l yo=some (.int .i64 y):=by exact ⟨rfl,rfl,rfl⟩) (hz:x+y=z:=by omega) (h: -9223372036854775808<=z/\z<=9223372036854775807:=by omega):jy P N l o w (.int .i64 z):=bE ho.1 ho.2.1 ho.2.2 (adR hz h)
theorem ysu (ho:o.op= .binOp .sub t xo yo tt/\ev l xo=some (.int .i64 x)/\ev l yo=some (.int .i64 y):=by exact ⟨rfl,rfl,rfl⟩) (hz:x-y=z:=by omega) (h: -9223372036854775808<=z/\z<=9223372036854775807:=by omega):jy P N l o w (.int .i64 z):=bE ho.1 ho.2.1 ho.2.2 (avM hz h)
theorem jf {p e:TypeId} {b off n c s:Nat} {i:Int} {xo yo:Operand} (k:Nat) (ho:o.op= .indexAddr p xo yo/\ev l xo=some (.slice (some ⟨b,off,none⟩) n c)/\ev l yo=some (.int kd i):=by exact ⟨rfl,rfl,rfl⟩) (hu:P.underlying p=some (.slice e):=by exact VG) (hz:(P.info? e).map (·.size)=some s:=by exact iiQ) (hik:i=k:=by first | rfl | omega | simp) (hk:k<n:=by first | omega | simp | decide):jy P N l o w (.pointer (some ⟨b,off+k*s,none⟩)):=aR ho.1 ho.2.1 ho.2.2 (lF k hu hz hik hk)
end
section
variable {b m off:Nat} {row row' cs:Array Value} {t ty:TypeId} {x y:Operand} {C:World->Prop} {n:Nat} {ls ls':List Bool}
theorem jD (i:Nat) (S:St B w0 w fs) (hz:(P.info? ty).map (·.size)=some m) (h: ∀ w',St B w0 w' fs'->wL P N ops Q rest l w') (hw:o.guard=none/\o.dst=none/\o.op= .store ty x y/\ev l x=some (.pointer (some ⟨b,off,none⟩))/\ev l y=some v:=by exact ⟨rfl,rfl,rfl,rfl,rfl⟩) (hi:fs[i]? =some (.blk b row t):=by exact rfl) (hv:v.cells=cs:=by exact rfl) (hm:cs.size=m:=by exact rfl) (h1: ∀ u∈cs.toList,u.oneCell'=true:=by exact bM rfl) (hr:Nat.ble (off+m) row.size=true:=by exact rfl) (hs:cu row off cs.toList=row':=by exact rfl) (hf:iL (.blk b row' t) fs i fs':=by repeat' first | exact iL.z | apply iL.s):wL P N ops Q (o::rest) l w:=FM i S (wn hw.1) hw.2.1 hw.2.2.1 hw.2.2.2.1 hw.2.2.2.2 hi hv hz hm h1 (Nat.le_of_ble_eq_true hr) hs hf.eq h
theorem stA (i:Nat) (S:St B w0 w fs) (hz:(P.info? ty).map (·.size)=some m) (h: ∀ w',St B w0 w' fs'->wL P N ops Q rest l w') (hw:o.guard=none/\o.dst=none/\o.op= .store ty x y/\ev l x=some (.pointer (some ⟨b,0,none⟩))/\ev l y=some v:=by exact ⟨rfl,rfl,rfl,rfl,rfl⟩) (hi:fs[i]? =some (.blk b row t):=by exact rfl) (hv:v.cells=cs:=by exact rfl) (hm:cs.size=m:=by exact rfl) (h1: ∀ u∈cs.toList,u.oneCell'=true:=by exact bM rfl) (hs:row.size=cs.size:=by exact rfl) (hr:Nat.ble (0+m) row.size=true:=by exact rfl) (hf:iL (.blk b cs t) fs i fs':=by repeat' first | exact iL.z | apply iL.s):wL P N ops Q (o::rest) l w:=FM i S (wn hw.1) hw.2.1 hw.2.2.1 hw.2.2.2.1 hw.2.2.2.2 hi hv hz hm h1 (Nat.le_of_ble_eq_true hr) (rz hs) hf.eq h
theorem snz (j:Nat) (hi':ops[j]? =some o) (i:Nat) (S:St B w0 w fs) (hz:(P.info? ty).map (·.size)=some m) (h: ∀ w',St B w0 w' fs'->C w'/\wA P N ops Q C n ls'.toArray l w') (hl:AB ls j ls':=by exact slQ) (hw:o.guard=none/\o.dst=none/\o.op= .store ty x y/\ev l x=some (.pointer (some ⟨b,off,none⟩))/\ev l y=some v:=by exact ⟨rfl,rfl,rfl,rfl,rfl⟩) (hi:fs[i]? =some (.blk b row t):=by exact rfl) (hv:v.cells=cs:=by exact rfl) (hm:cs.size=m:=by exact rfl) (h1: ∀ u∈cs.toList,u.oneCell'=true:=by exact bM rfl) (hr:Nat.ble (off+m) row.size=true:=by exact rfl) (hs:cu row off cs.toList=row':=by exact rfl) (hf:iL (.blk b row' t) fs i fs':=by repeat' first | exact iL.z | apply iL.s):wK P N ops Q C n j ls.toArray l w:=uw hi' hl.eq i S (wn hw.1) hw.2.1 hw.2.2.1 hw.2.2.2.1 hw.2.2.2.2 hi hv hz hm h1 (Nat.le_of_ble_eq_true hr) hs hf.eq h
theorem snA (j:Nat) (hi':ops[j]? =some o) (i:Nat) (S:St B w0 w fs) (hz:(P.info? ty).map (·.size)=some m) (h: ∀ w',St B w0 w' fs'->C w'/\wA P N ops Q C n ls'.toArray l w') (hl:AB ls j ls':=by exact slQ) (hw:o.guard=none/\o.dst=none/\o.op= .store ty x y/\ev l x=some (.pointer (some ⟨b,0,none⟩))/\ev l y=some v:=by exact ⟨rfl,rfl,rfl,rfl,rfl⟩) (hi:fs[i]? =some (.blk b row t):=by exact rfl) (hv:v.cells=cs:=by exact rfl) (hm:cs.size=m:=by exact rfl) (h1: ∀ u∈cs.toList,u.oneCell'=true:=by exact bM rfl) (hs:row.size=cs.size:=by exact rfl) (hr:Nat.ble (0+m) row.size=true:=by exact rfl) (hf:iL (.blk b cs t) fs i fs':=by repeat' first | exact iL.z | apply iL.s):wK P N ops Q C n j ls.toArray l w:=uw hi' hl.eq i S (wn hw.1) hw.2.1 hw.2.2.1 hw.2.2.2.1 hw.2.2.2.2 hi hv hz hm h1 (Nat.le_of_ble_eq_true hr) (rz hs) hf.eq h
end
end
end
section
open ChangeShapes WideShapes ChangeAt RowKit
section
variable {P:Program} {N:Nat} {l:Slots} {w w' w0:World} {B:Nat} {fs fs':List Fact} {ops:Array Oper} {o:Oper} {rest:List Oper} {Q:Exit->Act->World->Prop} {v:Value}
def sH:List Value->Nat->List Value->List Value
 | xs,_,[]=>xs
 | xs,k,v::vs=>sH (xs.set k v) (k+1) vs
theorem HY: ∀ (vs:List Value) (cur:Array Value) (k:Nat),(cu cur k vs).toList=sH cur.toList k vs
 | [],_,_=>rfl
 | v::vs,cur,k=>by rw [cu,sH,HY vs,Array.toList_setIfInBounds]
theorem N7 (m:Nat): ∀ (vs xs:List Value) (k:Nat),(sH xs k vs).take m=sH (xs.take m) k vs
 | [],_,_=>rfl
 | v::vs,xs,k=>by rw [sH,sH,N7 m vs,List.take_set]
theorem H6: ∀ (vs xs:List Value) (k:Nat),(sH xs k vs).length=xs.length
 | [],_,_=>rfl
 | v::vs,xs,k=>by rw [sH,H6 vs,List.length_set]
theorem akt {e:TypeId} {s g n c k:Nat} {xs:List Value} (h:w.ownsRow B e s (.slice (some ⟨g,0,none⟩) n c) n xs) (cs:List Value):(w.setCells g k cs).ownsRow B e s (.slice (some ⟨g,0,none⟩) n c) n (sH xs k cs):=by
 obtain ⟨hl,h | ⟨g',cap,cur,hv,hg,hh,hn,hc,hsz,ht⟩⟩:=h
 ·exact absurd h.1 iQ
 injection hv with h1 h2 h3
 injection h1 with h1
 injection h1 with h1 h4 h5
 subst h1;subst h3;have hb:fV w g cur e:=⟨hh⟩;have hb':=jF cs k hb;refine ⟨by rw [H6];exact hl,.inr ⟨g,c,cu cur k cs,rfl,hg,hb'.blk,hn,hc,by rw [ny];exact hsz,?_⟩⟩;rw [HY,N7,ht]
theorem St.aqJ {e:TypeId} {s g n c k:Nat} {xs:List Value} (i:Nat) (S:St B w0 w fs) (hi:fs[i]? =some (.own e s (.slice (some ⟨g,0,none⟩) n c) n xs)) (cs:List Value):St B w0 (w.setCells g k cs) (fs.set i (.own e s (.slice (some ⟨g,0,none⟩) n c) n (sH xs k cs))):=
 St.adU i S hi (jG g cs k w) (akt (S.own i hi) cs)
theorem St.afW {e:TypeId} {s g n c k m:Nat} {xs:List Value} (i:Nat) (S:St B w0 w fs) (hi:fs[i]? =some (.own e s (.slice (some ⟨g,0,none⟩) n c) n xs)) (hk:k+m<=n*s):w.there g k m:=λj hj=>by
 obtain ⟨hl,h | ⟨g',cap,cur,hv,hg,hh,hn,hc,hsz,ht⟩⟩:=S.own i hi
 ·exact absurd h.1 iQ
 injection hv with h1 h2 h3
 injection h1 with h1
 injection h1 with h1 h4 h5
 subst h1;subst h3;have hle:n*s<=c*s:=Nat.mul_le_mul_right s hn;have hlt:k+j<cur.size:=by rw [hsz];omega
 have hb:fV w g cur e:=⟨hh⟩;exact ⟨by rw [hb.cell (k:=k+j) (Array.getElem?_eq_getElem hlt)];rfl,hb.free _⟩
theorem lN {ty e:TypeId} {x y:Operand} {s g n c k m:Nat} {cs:Array Value} {xs xs':List Value} (i:Nat) (S:St B w0 w fs) (hw:Wanted N ops l o true) (hd:o.dst=none) (ho:o.op= .store ty x y) (hx:ev l x=some (.pointer (some ⟨g,k,none⟩))) (hy:ev l y=some v)
  (hi:fs[i]? =some (.own e s (.slice (some ⟨g,0,none⟩) n c) n xs)) (hv:v.cells=cs) (hz:(P.info? ty).map (·.size)=some m) (hm:cs.size=m) (h1: ∀ u∈cs.toList,u.oneCell'=true) (hk:k+m<=n*s) (hxs:sH xs k cs.toList=xs')
  (h: ∀ w',St B w0 w' (fs.set i (.own e s (.slice (some ⟨g,0,none⟩) n c) n xs'))->wL P N ops Q rest l w'):wL P N ops Q (o::rest) l w:=by
 subst hxs;exact NK hw hd (PX ho hx hy (PZ hv hz hm h1 (S.afW i hi hk))) (h _ (S.aqJ i hi cs.toList))
theorem IW {ty t:TypeId} {x y:Operand} {b k:Nat} {u:Value} {row row':Array Value} (i:Nat) (S:St B w0 w fs) (hw:Wanted N ops l o true) (hd:o.dst=none) (ho:o.op= .store ty x y) (hx:ev l x=some (.pointer (some ⟨b,k,none⟩))) (hy:ev l y=some v)
  (hi:fs[i]? =some (.blk b row t)) (hv:v.cells= #[u]) (hz:(P.info? ty).map (·.size)=some 1) (h1:u.oneCell'=true) (hk:k<row.size) (hrow:row.setIfInBounds k u=row')
  (h: ∀ w',St B w0 w' (fs.set i (.blk b row' t))->wL P N ops Q rest l w'):wL P N ops Q (o::rest) l w:=by
 refine FM i S hw hd ho hx hy hi hv hz rfl (by simpa using h1) oQ (row':=row') ?_ rfl h;subst hrow;rfl
end
section
variable {P:Program} {N:Nat} {l l':Slots} {w:World} {Q:Exit->Act->World->Prop}
def Kg (P:Program) (c:Code) (Q:Exit->Act->World->Prop) (a:Act) (w:World):Prop:= ∀ (b:Frame) (k:List Item) (cs:List Frame),∃ e a' w',Q e a' w'/\Arrives P (lone (b.at a (.code c:: .inLoop c::k)) cs w) b k cs e a' w'
def wI (P:Program) (N:Nat) (c:Code) (Q:Exit->Act->World->Prop) (l:Slots) (w:World):Prop:= ∀ a,Fr N l a->Kg P c Q a w
theorem N8 {c:Code} (h:wI P N c Q l w):wC P N (.loop c) Q l w:=by
 intro a F b k cs;obtain ⟨e,a',w',hq,harr⟩:=h a F b k cs;exact ⟨e,a',w',hq,.of_steps (.one step_loop) harr⟩
theorem mK {c:Code} (h:wC P N c (Exit.then (Kg P c Q) Q) l w):wI P N c Q l w:=by
 intro a F b k cs;obtain ⟨e,a₁,w₁,hq,harr⟩:=h a F b (.inLoop c::k) cs
 cases e with
 | normal=>
  obtain ⟨e₂,a₂,w₂,hq₂,harr₂⟩:=hq b k cs;exact ⟨e₂,a₂,w₂,hq₂,.of_steps (Steps.trans harr (.one step_inLoop)) harr₂⟩
 | exit id=>exact ⟨_,a₁,w₁,hq,.pass (x:= .inLoop c) rfl (λ_ _=> .inl iQ) harr⟩
 | goto l=>exact ⟨_,a₁,w₁,hq,.pass (x:= .inLoop c) rfl (λ_ _=> .inl iQ) harr⟩
 | ret=>exact ⟨_,a₁,w₁,hq,.pass (x:= .inLoop c) rfl (λ_ _=> .inl iQ) harr⟩
 | panic ch=>exact ⟨_,a₁,w₁,hq,.pass (x:= .inLoop c) rfl (λ_ _=> .inl iQ) harr⟩
 | outgrown=>exact ⟨_,a₁,w₁,hq,.pass (x:= .inLoop c) rfl (λ_ _=> .inl iQ) harr⟩
theorem pY {c:Code} (h:wI P N c Q l w):wQ N (Exit.then (Kg P c Q) Q) .normal l w:=h
end
def oP:Char:=Char.ofNat 32
theorem Ux (b:List Char):wordsSigns (oP::b)=[]::wordsSigns b:=rfl
theorem yY: ∀ (a b:List Char),a.all (λc=> !(c==oP))=true->wordsSigns (a++oP::b)=a::wordsSigns b
 | [],b,_=>Ux b
 | c::a,b,h=>by
  simp only [List.all_cons,Bool.and_eq_true,Bool.not_eq_true',beq_eq_false_iff_ne] at h;have ih:=yY a b h.2;rw [List.cons_append,wordsSigns,ih];intro e;exact h.1 e
theorem XQ {l:List Char} (h1:l.take 8= "harness".toList++[oP]) (h2:((l.drop 8).take 64).all (λc=> !(c==oP))=true) (h3:(l.drop 72).take 5=[oP]++("cut".toList++[oP])):
  ∃ s rest,s=(l.drop 8).take 64/\wordsSigns l= "harness".toList::s:: "cut".toList::rest:=by
 refine ⟨_,wordsSigns (l.drop 77),rfl,?_⟩;generalize hs:(l.drop 8).take 64=s at h2;have e1:l= "harness".toList++oP::(s++oP::("cut".toList++oP::l.drop 77)):=by
  have a1:l.take 8++l.drop 8=l:=List.take_append_drop 8 l;have a2:(l.drop 8).take 64++(l.drop 8).drop 64=l.drop 8:=List.take_append_drop 64 _;have a3:(l.drop 72).take 5++(l.drop 72).drop 5=l.drop 72:=List.take_append_drop 5 _;rw [List.drop_drop] at a2 a3;rw [h3] at a3;rw [h1] at a1;rw [hs] at a2
  calc l=_:=a1.symm
   _=_:=by rw [<-a2,show 8+64=72 from rfl,<-a3];simp
 generalize l.drop 77=r at e1;rw [e1,yY _ _ dQ,yY _ _ h2,yY _ _ dQ]
theorem Oa (rest:List (List Char)):stripLifts liftWords ("cut".toList::rest)=([], "cut".toList::rest):=by
 unfold liftWords
 repeat (rw [stripLifts,if_neg dQ])
 rw [stripLifts]
section
variable {P:Program} {s:List Char} {rest:List (List Char)} (hw:wordsSigns P.initOrder.toList= "harness".toList::s:: "cut".toList::rest) (hs:isSumSigns s=true)
include hw hs
theorem yZ:behindMainWord (wordsSigns P.initOrder.toList)= "cut".toList::rest:=by
 rw [hw,behindMainWord,if_pos (by rw [hs];decide)]
theorem QG (h1:P.laysLater=false) (h2:P.bearsReflect=false) (h3:P.doorFits []=true):P.mayEnter=true:=by
 unfold Program.mayEnter;rw [yZ hw hs];simp only;rw [Oa];simp only [h1,h2];rw [h3];simp
theorem Nh:P.headLifts=[]:=by
 unfold Program.headLifts;rw [yZ hw hs,Oa];rfl
theorem L9:P.liftsFinal=false:=by
 unfold Program.liftsFinal;rw [Nh hw hs,yZ hw hs];simp only [List.head?_cons];rw [show (some "cut".toList==some "carried".toList)=false by decide]
 rfl
theorem afX:P.make=some .cut:=by
 unfold Program.make;rw [yZ hw hs];simp only;rw [if_neg dQ,if_pos (by rw [show ("cut".toList== "cut".toList)=true by decide];rfl)]
end
theorem afY {P:Program} {s t:List Char} {rest:List (List Char)} (hw:wordsSigns P.initOrder.toList= "harness".toList::s::rest) (hs:isSumSigns s=true) (e:s=t):P.mainIs=some (true,t):=by
 subst e;unfold Program.mainIs;rw [hw];simp [hs]
def IX (P:Program) (f:FuncId) (fn:Func) (s:ChangeSpec) (c:OpenClaim):Bool:=
 c.wf (OpenSpec.ofChange s)&&laidOutB P&&mapsRowed P&&
 fn.params.all (P.readableRec ·)&&namedTie P c.named s.vars&&
 (c.stops==[])&&(P.stops==[])&&(c.knobs==[])&&(P.stopKnobs==[])&&
 (c.inPlace==P.inPlace f)&&(c.unfollowed==P.unfollowed f)&&(c.recurses==P.recurses f)&&(c.named==P.varsNamed f)&&
 (c.maps==(fn.params.toList++s.plain.varTypes P).any (P.mapsRec ·))&&(c.ifaces==(fn.params.toList++s.plain.varTypes P).any (P.ifacesRec ·))&&(c.mapsOut==P.mapsAmong fn.resultTypes.toList)&&
 (c.loops==(fn.params.toList++s.plain.varTypes P).any (P.loopsFrom ·))&&(c.wideKeys==(fn.params.toList++s.plain.varTypes P++fn.resultTypes.toList).any (P.wideKeysFrom ·))&&
 s.vars.all (P.varReadable ·)&&fn.resultTypes.all (λt=>P.readableRec t&&decide (t<P.types.size))&&(c.ifacesOut==fn.resultTypes.toList.any (P.ifacesRec ·))&&(c.loopsOut==fn.resultTypes.toList.any (P.loopsFrom ·))&&(c.plainKeys==P.plainKeys)&&c.shortTexts.isNone&&P.stopsHeard
theorem Ob {P:Program} {f:FuncId} {fn:Func} {s:ChangeSpec} {c:OpenClaim} (h:IX P f fn s c=true) (h1:P.mayEnter=true) (h2:(c.lifted==P.liftsFinal)=true) (h3:(P.make==some c.make)=true)
  (h4:((c.kinds==(if c.domain.isEmpty then [] else fn.params.toList.map λt=>match P.underlying t with | some (.int k)=>some k | _=>none))&&(c.pinned==c.pinnedBy)&&
   (c.veiled==(fn.params.toList++s.plain.varTypes P++fn.resultTypes.toList).any (P.veiledRec ·))&&c.veiledFits P fn.params.toList (fn.params.toList++s.plain.varTypes P++fn.resultTypes.toList))=true):joinedFacts P f fn s c=true:=by
 have e:joinedFacts P f fn s c=(IX P f fn s c&&P.mayEnter&&(c.lifted==P.liftsFinal)&&(P.make==some c.make)&&(c.kinds==(if c.domain.isEmpty then [] else fn.params.toList.map λt=>match P.underlying t with | some (.int k)=>some k | _=>none))&&(c.pinned==c.pinnedBy)&&
   (c.veiled==(fn.params.toList++s.plain.varTypes P++fn.resultTypes.toList).any (P.veiledRec ·))&&c.veiledFits P fn.params.toList (fn.params.toList++s.plain.varTypes P++fn.resultTypes.toList)):=rfl
 rw [e,h,h1,h2,h3];simpa using h4
theorem aaK: ∃ l:List Char,Tryz.prog.initOrder.toList=l/\l.take 8= "harness".toList++[oP]/\((l.drop 8).take 64).all (λc=> !(c==oP))=true/\(l.drop 72).take 5=[oP]++("cut".toList++[oP])/\isSumSigns ((l.drop 8).take 64)=true/\(l.drop 8).take 64= "9be92da7ca5ff786bd6f3c2aca94231d25133da4c985a112b327964fd7b43d09".toList:=by
 rw [show Tryz.prog.initOrder=Tryz.tables.initOrder by kernel_rfl];unfold Tryz.tables;simp only [];exact ⟨_,String.toList_ofList,by kernel_rfl,by kernel_rfl,by kernel_rfl,by kernel_rfl,by kernel_rfl⟩
theorem Cb: ∃ s rest,wordsSigns Tryz.prog.initOrder.toList= "harness".toList::s:: "cut".toList::rest/\isSumSigns s=true/\s= "9be92da7ca5ff786bd6f3c2aca94231d25133da4c985a112b327964fd7b43d09".toList:=by
 obtain ⟨l,e,h1,h2,h3,h4,h5⟩:=aaK;obtain ⟨s,rest,es,hw⟩:=XQ h1 h2 h3;subst es;exact ⟨_,rest,by rw [e];exact hw,h4,h5⟩
theorem XR:Tryz.prog.laysLater=false:=kQ
theorem QH:Tryz.prog.bearsReflect=false:=kQ
theorem XT:Tryz.prog.doorFits []=true:=kQ
theorem K3:Tryz.prog.mayEnter=true:=by
 obtain ⟨s,rest,hw,hs,_⟩:=Cb;exact QG hw hs XR QH XT
theorem K4:(false==Tryz.prog.liftsFinal)=true:=by
 obtain ⟨s,rest,hw,hs,_⟩:=Cb;rw [L9 hw hs];rfl
theorem Oc:(Tryz.prog.make==some .cut)=true:=by
 obtain ⟨s,rest,hw,hs,_⟩:=Cb;rw [afX hw hs]
 decide
theorem Od:Tryz.prog.mainIs=some (true, "9be92da7ca5ff786bd6f3c2aca94231d25133da4c985a112b327964fd7b43d09".toList):=by
 obtain ⟨s,rest,hw,hs,e⟩:=Cb;exact afY hw hs e
theorem K5:true=Tryz.pinned.checked.prog.looks []:=kQ
end
end Go.Proofs.YtlfgjcahpppbbaaGreatDoor
