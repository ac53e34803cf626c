import Derived.Test.YtceeleolddkibaaGreatDoorG37a0f
set_option linter.all false
set_option maxRecDepth 100000
set_option maxHeartbeats 8000000
namespace Go.Proofs.YtceeleolddkibaaGreatDoor
open List Nat Go.Proofs.Tryz ChangeShapes WideShapes RowKit
abbrev fA (s f k:Nat):Prop:= ∀(b o:Nat) (w:World),(Instr.fieldAt s (.pointer (some ⟨b,o,none⟩)) f).run tP w=.ok (.pointer (some ⟨b,o+k,none⟩)) w
abbrev iF (t k:Nat):Prop:=(tP.info? t).map (·.size)=some k
abbrev iZ (t:Nat)(z:Value)(s b:Nat):Prop:=(tP.info? t).map (λi=>(i.zero,i.size,i.bytes))=some (some z,s,b)
abbrev eN (f:FuncId):Prop:= ∀(args:Array Value) (w:World),(callFunc f args).run tP w=.ok (.enter f args) w
def ard:iF 3 1:=kQ
def arf:iF 4 1:=kQ
def aCN:iF 5 1:=kQ
def azs:iF 22 1:=kQ
def azt:iF 23 1:=kQ
def azu:iF 24 1:=kQ
def azv:iF 28 2:=kQ
def as5:fA 28 0 0:=fQ
def as6:fA 28 1 1:=fQ
def PS:iF 29 2:=kQ
def as7:fA 29 0 0:=fQ
def as8:fA 29 1 1:=fQ
def azw:iF 32 8:=kQ
def azx:iF 33 1:=kQ
def azy:iF 34 1:=kQ
def azz:iF 35 1:=kQ
def azA:iF 36 18:=kQ
def as9:fA 36 0 0:=fQ
def ata:fA 36 1 1:=fQ
def atb:fA 36 2 6:=fQ
def atc:fA 36 3 14:=fQ
def atd:fA 36 4 15:=fQ
def azB:iF 37 18:=kQ
def ate:fA 37 0 0:=fQ
def atf:fA 37 1 1:=fQ
def atg:fA 37 2 6:=fQ
def ath:fA 37 3 14:=fQ
def ati:fA 37 4 15:=fQ
def atj:fA 37 5 16:=fQ
def atl:fA 37 6 17:=fQ
def azC:iF 153 1:=kQ
def apR:iF 56 1:=kQ
def zP:iF 58 6:=kQ
def atm:iZ 58 (.agg #[D 0,D 0,D 0,D 0,D 0,.slice none 0 0]) 6 64:=kQ
def ahH:fA 58 0 0:=fQ
def atn:fA 58 1 1:=fQ
def ato:fA 58 2 2:=fQ
def atp:fA 58 3 3:=fQ
def atq:fA 58 4 4:=fQ
def ahI:fA 58 5 5:=fQ
def azD:iF 59 1:=kQ
def ahJ:iZ 59 (.slice none 0 0) 1 24:=kQ
def azE:iF 171 1:=kQ
def azF:iF 172 1:=kQ
def apS:iF 175 9:=kQ
def azG:iF 176 36:=kQ
def azH:iF 178 41:=kQ
def atr:fA 178 0 0:=fQ
def att:fA 178 1 1:=fQ
def atu:fA 178 2 2:=fQ
def atv:fA 178 3 3:=fQ
def atw:fA 178 4 4:=fQ
def atx:fA 178 5 5:=fQ
def azI:iF 51 2:=kQ
def aty:fA 51 0 0:=fQ
def atz:fA 51 1 1:=fQ
def DL:iF 53 6:=kQ
def tZ:iZ 53 (.agg #[D 0,D 0,D 0,D 0,D 0,D 0]) 6 48:=kQ
def atA:fA 53 0 0:=fQ
def atB:fA 53 1 1:=fQ
def atC:fA 53 2 2:=fQ
def atD:fA 53 3 3:=fQ
def atE:fA 53 4 4:=fQ
def xD:iF 55 11:=kQ
def Jf:iZ 55 (.agg #[D 0,D 0,D 0,D 0,D 0,D 0,D 0,D 0,D 0,D 0,D 0]) 11 88:=kQ
def atF:fA 55 0 0:=fQ
def atG:fA 55 1 1:=fQ
def atH:fA 55 2 2:=fQ
def atI:fA 55 3 3:=fQ
def atJ:fA 55 4 4:=fQ
def atK:fA 55 5 5:=fQ
def azJ:iF 109 4:=kQ
def atL:iZ 109 (.agg #[D 0,D 0,D 0,D 0]) 4 32:=kQ
def azK:iF 110 7:=kQ
def atM:fA 110 0 0:=fQ
def atN:fA 110 1 1:=fQ
def azL:iF 111 7:=kQ
def atO:iZ 111 (.agg #[D 0,D 0,D 0,D 0,D 0,D 0,D 0]) 7 56:=kQ
def atP:fA 111 2 5:=fQ
def atQ:iZ 159 (.agg #[D 0,D 0,D 0,D 0,D 0,D 0,D 0,D 0,D 0,D 0,D 0,D 0,D 0,D 0]) 14 112:=kQ
def apT:iF 217 2:=kQ
def Y4:iZ 217 (.agg #[D 0,D 0]) 2 16:=kQ
def atS:fA 217 0 0:=fQ
def atT:fA 217 1 1:=fQ
def azM:iF 220 4:=kQ
def ahK:iZ 220 (.agg #[D 0,D 0,D 0,D 0]) 4 32:=kQ
def atU:fA 220 0 0:=fQ
def atV:fA 220 1 2:=fQ
def atW:iF 62 5:=kQ
def am3:fA 62 0 0:=fQ
def am4:fA 62 1 1:=fQ
def am5:fA 62 2 2:=fQ
def am6:fA 62 3 3:=fQ
def am7:fA 62 4 4:=fQ
def atX:iF 63 5:=kQ
def acp:fA 63 0 0:=fQ
def TI:fA 63 1 1:=fQ
def acr:fA 63 2 2:=fQ
def DN:fA 63 3 3:=fQ
def TJ:fA 63 4 4:=fQ
def atY:iF 80 1:=kQ
def atZ:iF 81 1:=kQ
def Y5:iF 83 2:=kQ
def am8:fA 83 0 0:=fQ
def am9:fA 83 1 1:=fQ
def at0:iF 84 8:=kQ
def ana:fA 87 0 0:=fQ
def anb:fA 87 1 1:=fQ
def anc:fA 87 2 9:=fQ
def ane:fA 87 3 10:=fQ
def anf:fA 87 4 50:=fQ
def at1:iF 88 1:=kQ
def G6:iZ 88 (.pointer none) 1 8:=kQ
def at5:iF 91 2:=kQ
def acs:fA 91 0 0:=fQ
def ang:fA 91 1 1:=fQ
def at6:iF 92 4:=kQ
def at7:iF 93 1:=kQ
def aua:iF 95 20:=kQ
def anh:fA 95 0 0:=fQ
def ani:fA 95 1 1:=fQ
def anj:fA 95 2 2:=fQ
def ank:fA 95 3 4:=fQ
def anl:fA 95 4 5:=fQ
def anm:fA 95 5 13:=fQ
def ano:fA 95 6 17:=fQ
def anp:fA 95 7 18:=fQ
def anq:fA 95 8 19:=fQ
def aub:iF 155 1:=kQ
def auc:iF 194 42:=kQ
def anr:fA 194 0 0:=fQ
def ant:fA 194 1 41:=fQ
def aud:iF 213 41:=kQ
def anu:fA 213 0 0:=fQ
def anv:fA 214 0 0:=fQ
def aue:iF 75 4:=kQ
def acu:fA 75 0 0:=fQ
def DT:fA 75 1 1:=fQ
def DU:fA 75 2 2:=fQ
def Lv:fA 75 3 3:=fQ
def auf:iF 102 1:=kQ
def aug:iF 104 2:=kQ
def anw:fA 104 0 0:=fQ
def anx:fA 104 1 1:=fQ
def auh:iF 113 23:=kQ
def acv:iZ 113 (.agg #[D 0,D 0,D 0,D 0,D 0,D 0,D 0,D 0,D 0,D 0,D 0,D 0,D 0,.slice none 0 0,.bool false,D 0,D 0,D 0,D 0,D 0,D 0,D 0,D 0]) 23 200:=kQ
def anz:fA 113 0 0:=fQ
def anA:fA 113 1 1:=fQ
def anB:fA 113 2 2:=fQ
def anC:fA 113 3 3:=fQ
def anD:fA 113 4 4:=fQ
def anE:fA 113 5 5:=fQ
def anF:fA 113 6 6:=fQ
def anG:fA 113 7 7:=fQ
def anH:fA 113 8 13:=fQ
def anI:fA 113 9 14:=fQ
def ai9:fA 113 10 15:=fQ
def aja:fA 113 11 16:=fQ
def aui:iF 132 10:=kQ
def TK:iZ 132 (.agg #[D 0,D 0,D 0,D 0,D 0,D 0,D 0,D 0,D 0,D 0]) 10 80:=kQ
def anJ:fA 132 0 0:=fQ
def anK:fA 132 1 1:=fQ
def anL:fA 132 2 2:=fQ
def anM:fA 132 3 3:=fQ
def anN:fA 132 4 4:=fQ
def auj:iF 185 1:=kQ
def VO:eN 8:=eQ
def El:eN 12:=eQ
def aCO:eN 16:=eQ
def mixed:tP.follows .mixedOrders=true:=kQ
abbrev gN (o:Oper)(d N:Nat):Prop:=o.guard=none/\o.dst=some d/\blt d N=true
abbrev gM (o:Oper)(d N:Nat)(p:Prop):Prop:=o.guard=none/\o.dst=some d/\blt d N=true/\p
abbrev gS (o:Oper)(ops:Array Oper)(j:Nat)(b:Bool)(t:Nat):Prop:=o.guard=some (j,b)/\(ops[j]?).bind (·.dst)=some t
abbrev gY (u:Value)(b c:Bool)(o:Oper)(d N:Nat):Prop:=(yl u==some b)=c/\o.dst=some d/\blt d N=true
inductive vX (b:Nat):List Nf->Array Value->TypeId->Prop
 |z {row:Array Value} {t:TypeId} {fs:List Nf}:vX b (.Pj b row t::fs) row t
 |s {row:Array Value} {t:TypeId} {f:Nf} {fs:List Nf}:vX b fs row t->vX b (f::fs) row t
def fbQ{b:Nat}{fs:List Nf}{row:Array Value}{t:TypeId}(h:vX b fs row t:=by repeat' first|exact vX.z|apply vX.s):vX b fs row t:=h
def vX.at_{b:Nat}{fs:List Nf}{row:Array Value}{t:TypeId}(h:vX b fs row t):∃i:Nat,fs[i]? =some (Nf.Pj b row t):=by
 induction h with
 |z=>exact⟨0,E⟩
 |s _ I=>obtain⟨i,hi⟩:=I;exact⟨i+1,by simpa using hi⟩
inductive FJ:List Nf->List Nf->Prop
 |r {fs:List Nf}:FJ fs fs
 |k {f:Nf} {fs gs:List Nf}:FJ fs gs->FJ (f::fs) (f::gs)
 |d {f:Nf} {fs gs:List Nf}:FJ fs gs->FJ fs (f::gs)
 |a {fs gs:List Nf}:FJ fs (fs++gs)
def FJ.sub{fs gs:List Nf}(h:FJ fs gs):fs.Sublist gs:=by
 induction h with
 |r=>exact Sublist.refl _
 |k _ I=>exact I.cons_cons _
 |d _ I=>exact I.cons _
 |a=>exact G8 _ _
def Y6{t:TypeId}{ds:TypeDesc}(h:prog.underlying t=some ds:=by with_reducible first|exact underlying3|exact Tryz.underlying58|exact underlying56|exact Tryz.underlying55|exact Tryz.underlying59|exact Tryz.underlying88|exact Tryz.underlying109|exact Tryz.underlying132|exact Tryz.underlying53|exact Tryz.underlying104|exact Tryz.underlying80|exact Tryz.underlying168|exact underlying91|exact Tryz.underlying68|exact Tryz.underlying81|exact Tryz.underlying171|exact underlying23|exact underlying172|exact Tryz.underlying178|exact underlying93|exact underlying4|exact underlying33|exact Tryz.underlying89|exact Tryz.underlying113|exact Tryz.underlying77|exact underlying32|exact Tryz.underlying135|exact Tryz.underlying120|exact Tryz.underlying37|exact underlying222|exact underlying30|exact Tryz.underlying29|exact Tryz.underlying217|exact Tryz.underlying111|exact Tryz.underlying34|exact underlying35|exact Tryz.underlying155|exact underlying98|exact Tryz.underlying167|exact Tryz.underlying220|exact Tryz.underlying92|exact Tryz.underlying185|exact underlying5|exact underlying85|exact Tryz.underlying84|exact underlying176|exact Tryz.underlying175|exact underlying102|exact underlying51|exact underlying225|exact underlying22|exact Tryz.underlying63|exact Tryz.underlying83|exact Tryz.underlying75|exact underlying95|exact underlying27):prog.underlying t=some ds:=h
def iiQ{t:TypeId}{m:Nat}(h:(prog.info? t).map (·.size)=some m:=by with_reducible first|exact zP|exact atW|exact xD|exact ard|exact azJ|exact azv|exact aJt|exact DL|exact aui|exact azH|exact at5|exact azF|exact aug|exact PS|exact auc|exact azK|exact azA|exact auf|exact auh|exact azw|exact azB|exact arf|exact apR|exact aud|exact aCN|exact at7|exact azC|exact at1|exact azM|exact apS|exact azt|exact apT|exact Y5|exact azs|exact aJu|exact atZ|exact atY|exact azL|exact azD|exact azI|exact azE|exact azy|exact at0|exact azu|exact atX|exact aua|exact azx|exact aub|exact at6|exact azz|exact aue|exact auj|exact azG):(prog.info? t).map (·.size)=some m:=h
section
variable {P:Program}{N:Nat}{l l':QF}{w w' w0:World}{ops:Array Oper}{o:Oper}{rest:List Oper}{Q:Exit->Act->World->Prop}{d B:Nat}{v p:Value}{fs fs':List Nf}{ex:Exit}
section
variable {x y:Operand}{t tt s:TypeId}{ds:TypeDesc}{b k f o0 n c m:Nat}{g:Nat->Nat}{row:Array Value}{A:Option Addr}{e:TypeId}
def zfa(h:o.op=.fieldAddr s x f/\ev l x=some (.pointer (some ⟨b,o0,none⟩)):=by exact⟨E,E⟩)(I:∀(b o:Nat) (w:World),(Instr.fieldAt s (.pointer (some ⟨b,o,none⟩)) f).run P w=.ok (.pointer (some ⟨b,g o,none⟩)) w:=by with_reducible first|exact am3|exact ahI|exact ahH|exact anv|exact atn|exact atF|exact anp|exact ank|exact atK|exact am4|exact atG|exact anj|exact ana|exact atA|exact anh|exact anC|exact ani|exact am6|exact atv|exact anJ|exact atH|exact am7|exact atw|exact anr|exact atp|exact anb|exact as7|exact atI|exact atq|exact am5|exact anc|exact anA|exact anM|exact ath|exact atE|exact as8|exact anD|exact as5|exact as6|exact atM|exact anf|exact ato|exact ano|exact anL|exact atr|exact atu|exact anl|exact att|exact anB|exact atB|exact atS|exact atz|exact ant|exact anF|exact atU|exact anE|exact atJ|exact atC|exact atD|exact aty|exact anu|exact DT|exact DU|exact DN|exact anz|exact anm|exact anG|exact atl|exact as9|exact atV|exact anN|exact anq|exact anI|exact ai9|exact atT|exact ane|exact ati|exact atj|exact atx|exact anw|exact Lv|exact anK|exact ata|exact atd|exact TI|exact TJ|exact anH|exact acs|exact atN|exact atP|exact anx|exact atb|exact atc|exact am8|exact am9|exact aja|exact acu|exact acr|exact acp|exact ang|exact ate|exact atg|exact atf):kT P N l o w (.pointer (some ⟨b,g o0,none⟩)):=Kw h.1 h.2 (I b o0 w)
def zld(h:o.op=.load t x/\ev l x=some (.pointer (some ⟨b,k,none⟩)):=by exact⟨E,E⟩)(I:P.underlying t=some ds:=by exact Y6)(J:ds.isRow=false:=by exact E)(S:St B w0 w fs:=by assumption)(M:vX b fs row tt:=by exact fbQ)(O:row[k]? =some v:=by exact E):kT P N l o w v:=by
 obtain⟨i,hi⟩:=M.at_;exact ay h.1 h.2 (qO I J (St.cl i S hi O))
def zlr(h:o.op=.load t x/\ev l x=some (.pointer (some ⟨b,0,none⟩)):=by exact⟨E,E⟩)(I:P.underlying t=some ds:=by exact Y6)(J:ds.isRow=true:=by exact E)(S:St B w0 w fs:=by assumption)(M:vX b fs row tt:=by exact fbQ)(O:(P.info? t).map (·.size)=some m:=by exact iiQ)(Z:row.size=m:=by exact E):kT P N l o w (.agg row):=by
 obtain⟨i,hi⟩:=M.at_;exact ay h.1 h.2 (rM i S hi I J O Z)
def zln(h:o.op=.call {callee:=.builtin .len,args:= #[x],argTypes:= #[t]}/\ev l x=some (.slice A n c):=by exact⟨E,E⟩)(I:P.underlying t=some (.slice e):=by exact Y6):kT P N l o w (.int .i64 (n:Int)):=lg (xs:=[x]) (vs:=[_]) h.1 ⟨h.2,trivial⟩ λ_=>PO E I
def znl(h:o.op=.nilCheck x:=by exact E)(I:ev l x=some p:=by exact E)(J:match p with | .pointer (some _)=>True | .func (.func _) _ _=>True | .func (.via ..) _ _=>True|_=>False:=by exact trivial):kT P N l o w p:=azl h I J
section
variable {kd:IntKind}{xo yo:Operand}{x y:Int}
def zRC(x y:Int):Bool->BinOp->Prop
 |true,.lss=>x<y
 |false,.lss=> ¬x<y
 |true,.leq=>x<=y
 |false,.leq=> ¬x<=y
 |true,.gtr=>y<x
 |false,.gtr=> ¬y<x
 |true,.geq=>y<=x
 |false,.geq=> ¬y<=x
 |true,.eql=>x=y
 |false,.eql=> ¬x=y
 |true,.neq=> ¬x=y
 |false,.neq=>x=y
 |_,_=>False
def zcm{q:Bool}{op:BinOp}(I:o.op=.binOp op t xo yo tt/\ev l xo=some (.int kd x)/\ev l yo=some (.int kd y):=by exact⟨E,E,E⟩)(h:zRC x y q op:=by dsimp only[zRC]<;>first|assumption|decide):kT P N l o w (.bool q):=by
 refine cO I.1 I.2.1 I.2.2 ?_
 cases q<;>cases op<;>first|exact h.elim|exact acd h|exact ace h|exact amN h|exact amO h|exact amP h|exact amQ h|exact amR h|exact amS h|exact amT h|exact acf h|exact acg h|exact Tv h
def zco{q:Bool}{op:BinOp}(I:o.op=.binOp op t xo yo tt/\ev l xo=some (.int kd x)/\ev l yo=some (.int kd y):=by exact⟨E,E,E⟩)(h:zRC x y q op:=by dsimp only[zRC]<;>omega):kT P N l o w (.bool q):=zcm I h
end
def awh{P:Program}{w:World}{t:TypeId}{xo yo:Operand}{a b:ByteArray}{q:Bool}(h:(a.toList==b.toList)=q):(do eqGuard .eql t xo yo (.string a) (.string b);binOp .eql t (.string a) (.string b):Sem Value).run P w=.ok (.bool q) w:=by
 subst h;simp[binOp,eqGuard_at_string,go_sem,Op.stringOp]
def aCP{xo yo:Operand}{a b:ByteArray}(I:o.op=.binOp .eql t xo yo tt/\ev l xo=some (.string a)/\ev l yo=some (.string b):=by exact⟨E,E,E⟩)(h:(a.toList==b.toList)=true:=by decide+kernel):kT P N l o w (.bool true):=cO I.1 I.2.1 I.2.2 (awh h)
def aCQ{xo yo:Operand}{a b:ByteArray}(I:o.op=.binOp .eql t xo yo tt/\ev l xo=some (.string a)/\ev l yo=some (.string b):=by exact⟨E,E,E⟩)(h:(a.toList==b.toList)=false:=by decide+kernel):kT P N l o w (.bool false):=cO I.1 I.2.1 I.2.2 (awh h)
end
end
abbrev MP (t:TypeId)(v:Value):Prop:= ∀w,(Instr.build t ([]:List (Nat×Value)).toArray).run prog w=.ok v w
def aCR:MP 29 (.agg #[D 0,D 0]):=λ_=>kQ
def aCS:MP 32 (.agg #[D 0,D 0,D 0,D 0,D 0,D 0,D 0,D 0]):=λ_=>kQ
def aCT:MP 37 (.agg #[D 0,.bool false,.bool false,.bool false,.bool false,.bool false,D 0,D 0,D 0,D 0,D 0,D 0,D 0,D 0,.slice none 0 0,.slice none 0 0,.slice none 0 0,D 0]):=λ_=>kQ
def aCU:MP 58 (.agg #[D 0,D 0,D 0,D 0,D 0,.slice none 0 0]):=λ_=>kQ
def aCV:MP 175 (.agg #[D 0,.bool false,.bool false,.bool false,.bool false,.bool false,.bool false,.bool false,.bool false]):=λ_=>kQ
def aCW:MP 53 (.agg #[D 0,D 0,D 0,D 0,D 0,D 0]):=λ_=>kQ
def aCX:MP 55 (.agg #[D 0,D 0,D 0,D 0,D 0,D 0,D 0,D 0,D 0,D 0,D 0]):=λ_=>kQ
def aCY:MP 109 (.agg #[D 0,D 0,D 0,D 0]):=λ_=>kQ
def aCZ:MP 111 (.agg #[D 0,D 0,D 0,D 0,D 0,D 0,D 0]):=λ_=>kQ
def aC0:MP 217 (.agg #[D 0,D 0]):=λ_=>kQ
def aC1:MP 220 (.agg #[D 0,D 0,D 0,D 0]):=λ_=>kQ
def azN:MP 83 (.agg #[D 0,D 0]):=λ_=>kQ
def azO:MP 91 (.agg #[.slice none 0 0,D 0]):=λ_=>kQ
def azP:MP 95 (.agg #[D 0,.bool false,.slice none 0 0,D 0,.slice none 0 0,D 0,D 0,D 0,D 0,D 0,D 0,D 0,D 0,.bool false,.bool false,.bool false,.bool false,.slice none 0 0,.nilFunc,D 0]):=λ_=>kQ
def azQ:MP 104 (.agg #[.pointer none,D 0]):=λ_=>kQ
def azR:MP 113 (.agg #[D 0,D 0,D 0,D 0,D 0,D 0,D 0,D 0,D 0,D 0,D 0,D 0,D 0,.slice none 0 0,.bool false,D 0,D 0,D 0,D 0,D 0,D 0,D 0,D 0]):=λ_=>kQ
def azS:MP 132 (.agg #[D 0,D 0,D 0,D 0,D 0,D 0,D 0,D 0,D 0,D 0]):=λ_=>kQ
section
variable {P:Program}{N:Nat}{l l':QF}{w w' w0:World}{ops:Array Oper}{o:Oper}{rest:List Oper}{Q:Exit->Act->World->Prop}{d B:Nat}{v p:Value}{fs fs':List Nf}{ex:Exit}
section
variable {x y:Operand}{t tt s:TypeId}{ds:TypeDesc}{b k f o0 n c m:Nat}{g:Nat->Nat}{row:Array Value}{A:Option Addr}{e:TypeId}
def ybz{row:Array Value}(h:o.op=.build t ([]:List (Nat×Operand)).toArray:=by exact E)(I:∀w,(Instr.build t ([]:List (Nat×Value)).toArray).run P w=.ok (.agg row) w:=by with_reducible first|exact aCR|exact aCS|exact aCT|exact aCU|exact aCV|exact aCW|exact aCX|exact aCY|exact aCZ|exact aC0|exact aC1|exact azN|exact azO|exact azP|exact azQ|exact azR|exact azS):kT P N l o w (.agg row):=GK (vs:=[]) h trivial (I w)
def y0Q(h:kT P N l o w v:=by first|exact ym|exact ya|exact yx|exact yno|exact znl|exact zfa|exact zld|exact zlr|exact zln|exact ypT|exact ypF|exact ybz|exact aCP|exact aCQ|exact zcm (q:=true)|exact zcm (q:=false)|exact zco (q:=true)|exact zco (q:=false)):kT P N l o w v:=h
end
inductive zm:Nat->List Bool->Nat->List Bool->Prop
 |z {l:List Bool}:zm 0 (false::l) 0 (true::l)
 |t {k i:Nat} {l l':List Bool}:zm k l i l'->zm k (true::l) (i+1) (true::l')
 |f {k i:Nat} {l l':List Bool}:zm k l i l'->zm (k+1) (false::l) (i+1) (false::l')
def nfQ{k i:Nat}{l l':List Bool}(h:zm k l i l':=by repeat' first|exact zm.z|apply zm.t|apply zm.f):zm k l i l':=h
def zm.eq{k i:Nat}{l l':List Bool}(h:zm k l i l'):l.toArray.setIfInBounds i true=l'.toArray:=by
 suffices J:l.set i true=l' by simp[J]
 induction h with
 |z=>rfl
 |t _ I=>rw[Bf,I]
 |f _ I=>rw[Bf,I]
inductive CV:List Bool->Nat->List Bool->Prop
 |z {b:Bool} {l:List Bool}:CV (b::l) 0 (true::l)
 |s {b:Bool} {i:Nat} {l l':List Bool}:CV l i l'->CV (b::l) (i+1) (b::l')
def slQ{i:Nat}{l l':List Bool}(h:CV l i l':=by repeat' first|exact CV.z|apply CV.s):CV l i l':=h
def CV.eq{i:Nat}{l l':List Bool}(h:CV l i l'):l.toArray.setIfInBounds i true=l'.toArray:=by
 suffices I:l.set i true=l' by simp[I]
 induction h with
 |z=>rfl
 |s _ J=>rw[Bf,J]
def Step(A B:Prop):Prop:=B->A
section
variable {C:World->Prop}{Qa:Act->Prop}{j:Nat}{t:Nat}{u:Value}{b:Bool}
def q1Q(hw:gN o d N:=by exact⟨E,E,E⟩)(I:kT P N l o w v:=by exact y0Q):Step (wL P N ops Q (o::rest) l w) (wL P N ops Q rest ((d,v)::l) w):=λh=>I9 (wn hw.1) hw.2.1 hw.2.2 I h
def q2Q(J:gS o ops j b t:=by exact⟨E,E⟩)(hv:lk l t=some u:=by exact E)(I:gY u b true o d N:=by exact⟨E,E,E⟩)(M:kT P N l o w v:=by exact y0Q):Step (wL P N ops Q (o::rest) l w) (wL P N ops Q rest ((d,v)::l) w):=λh=>I9 (wg J.1 J.2 hv I.1) I.2.1 I.2.2 M h
def q3Q(hw:gN o d N:=by exact⟨E,E,E⟩)(I:∀w,C w->kT P N l o w v:=by(intro w S;exact y0Q)):Step (wU P N ops C Qa (o::rest) l) (wU P N ops C Qa rest ((d,v)::l)):=λh=>Q5 (wn hw.1) hw.2.1 hw.2.2 I h
def q4Q(J:gS o ops j b t:=by exact⟨E,E⟩)(hv:lk l t=some u:=by exact E)(I:gY u b true o d N:=by exact⟨E,E,E⟩)(M:∀w,C w->kT P N l o w v:=by(intro w S;exact y0Q)):Step (wU P N ops C Qa (o::rest) l) (wU P N ops C Qa rest ((d,v)::l)):=λh=>Q5 (wg J.1 J.2 hv I.1) I.2.1 I.2.2 M h
def St.fit{gs:List Nf}(S:St B w0 w gs)(h:FJ fs gs:=by repeat' first|exact FJ.r|exact FJ.a|apply FJ.k|apply FJ.d):St B w0 w fs:=S.sub h.sub
def cwQ{G:Prop}(h:G:=by first|assumption|exact St.fit ‹_›):G:=h
abbrev gR (ops:Array Oper)(ls:List Bool)(i:Nat):Prop:=Region.noSelect ops=true/\Region.free .any ops ls.toArray i=true/\(Region.ready .any ops ls.toArray).contains i=true
section
variable {n m i:Nat}{listed listed':Array Bool}
def q5Q{ls ls':List Bool}(q:Nat)(I:zm q ls i ls':=by exact nfQ)(hi:ops[i]? =some o:=by exact E)(hw:gN o d N:=by exact⟨E,E,E⟩)(J:∀w,C w->kT P N l o w v:=by(intro w S;exact y0Q))(M:C w:=by exact cwQ)(hs:gR ops ls i:=by exact⟨kQ,kQ,kQ⟩):Step (wA P N ops Q C (n+1) ls.toArray l w) (wA P N ops Q C n ls'.toArray ((d,v)::l) w):=λh=>GQ hi hs.1 hs.2.1 hs.2.2 M I.eq (wn hw.1) hw.2.1 hw.2.2 J h
def q6Q{ls ls':List Bool}(q:Nat)(O:zm q ls i ls':=by exact nfQ)(hi:ops[i]? =some o:=by exact E)(hw:gN o d N:=by exact⟨E,E,E⟩)(Z:∀w,C w->kT P N l o w v:=by(intro w S;exact y0Q))(hS:C w:=by exact cwQ)(hs:gR ops ls i:=by exact⟨kQ,kQ,kQ⟩)(I:ls.toArray.getD n true=false:=by exact E)(J:Am ops n i=true:=by kernel_rfl)(M:beq n i=false:=by exact E):Step (wG P N ops Q C n (m+1) ls.toArray l w) (wG P N ops Q C n m ls'.toArray ((d,v)::l) w):=λh=>GU hi hs.1 hs.2.1 hs.2.2 I J M hS O.eq (wn hw.1) hw.2.1 hw.2.2 Z h
def q7Q{ls ls':List Bool}(q:Nat)(M:zm q ls i ls':=by exact nfQ)(hi:ops[i]? =some o:=by exact E)(J:gS o ops j b t:=by exact⟨E,E⟩)(hv:lk l t=some u:=by exact E)(I:gY u b true o d N:=by exact⟨E,E,E⟩)(O:∀w,C w->kT P N l o w v:=by(intro w S;exact y0Q))(Z:C w:=by exact cwQ)(hs:gR ops ls i:=by exact⟨kQ,kQ,kQ⟩):Step (wA P N ops Q C (n+1) ls.toArray l w) (wA P N ops Q C n ls'.toArray ((d,v)::l) w):=λh=>GQ hi hs.1 hs.2.1 hs.2.2 Z M.eq (wg J.1 J.2 hv I.1) I.2.1 I.2.2 O h
def q8Q{ls ls':List Bool}(q:Nat)(M:zm q ls i ls':=by exact nfQ)(hi:ops[i]? =some o:=by exact E)(J:gS o ops j b t:=by exact⟨E,E⟩)(hv:lk l t=some u:=by exact E)(I:gY u b false o d N:=by exact⟨E,E,E⟩)(O:C w:=by exact cwQ)(hs:gR ops ls i:=by exact⟨kQ,kQ,kQ⟩):Step (wA P N ops Q C (n+1) ls.toArray l w) (wA P N ops Q C n ls'.toArray ((d,undef)::l) w):=λh=>DI hi hs.1 hs.2.1 hs.2.2 O M.eq (wg J.1 J.2 hv I.1) I.2.1 I.2.2 h
def q9Q{ls ls':List Bool}(q:Nat)(hl:zm q ls i ls':=by exact nfQ)(hi:ops[i]? =some o:=by exact E)(Z:gS o ops j b t:=by exact⟨E,E⟩)(hv:lk l t=some u:=by exact E)(I:gY u b true o d N:=by exact⟨E,E,E⟩)(hy:∀w,C w->kT P N l o w v:=by(intro w S;exact y0Q))(hS:C w:=by exact cwQ)(hs:gR ops ls i:=by exact⟨kQ,kQ,kQ⟩)(J:ls.toArray.getD n true=false:=by exact E)(M:Am ops n i=true:=by kernel_rfl)(O:beq n i=false:=by exact E):Step (wG P N ops Q C n (m+1) ls.toArray l w) (wG P N ops Q C n m ls'.toArray ((d,v)::l) w):=λh=>GU hi hs.1 hs.2.1 hs.2.2 J M O hS hl.eq (wg Z.1 Z.2 hv I.1) I.2.1 I.2.2 hy h
def Lx{ls ls':List Bool}(q:Nat)(hl:zm q ls i ls':=by exact nfQ)(hi:ops[i]? =some o:=by exact E)(Z:gS o ops j b t:=by exact⟨E,E⟩)(hv:lk l t=some u:=by exact E)(I:gY u b false o d N:=by exact⟨E,E,E⟩)(hS:C w:=by exact cwQ)(hs:gR ops ls i:=by exact⟨kQ,kQ,kQ⟩)(J:ls.toArray.getD n true=false:=by exact E)(M:Am ops n i=true:=by kernel_rfl)(O:beq n i=false:=by exact E):Step (wG P N ops Q C n (m+1) ls.toArray l w) (wG P N ops Q C n m ls'.toArray ((d,undef)::l) w):=λh=>am0 hi hs.1 hs.2.1 hs.2.2 J M O hS hl.eq (wg Z.1 Z.2 hv I.1) I.2.1 I.2.2 h
end
end
section
variable {fn:Func}{R:Ending->World->Prop}{i j k:Nat}{v1 v2 v3:Value}{ty t tt:TypeId}{b m:Nat}{row:Array Value}{ds:TypeDesc}
def p0Q(h:fn.results=([]:List ResultVar).toArray:=by exact E):Step (wQ N (bodyPost P fn R) .ret l w) (R (.returned (tX [])) w):=λI=>fB (vs:=[]) h trivial I
def aC2(h:fn.results=([]:List ResultVar).toArray:=by exact E):Step (wQ N (bodyPost P fn R) .normal l w) (R (.returned (tX [])) w):=λI=>QW (vs:=[]) h trivial I
def p1Q(h:fn.results=[ResultVar.tmp i].toArray:=by exact E)(h1:lk l i=some v1:=by exact E):Step (wQ N (bodyPost P fn R) .ret l w) (R (.returned (tX [v1])) w):=λI=>fB (vs:=[v1]) h ⟨h1,trivial⟩ I
def p2Q(h:fn.results=[ResultVar.tmp i,ResultVar.tmp j].toArray:=by exact E)(h1:lk l i=some v1:=by exact E)(I:lk l j=some v2:=by exact E):Step (wQ N (bodyPost P fn R) .ret l w) (R (.returned (tX [v1,v2])) w):=λJ=>fB (vs:=[v1,v2]) h ⟨h1,I,trivial⟩ J
def p3Q(I:fn.results=[ResultVar.tmp i,ResultVar.tmp j,ResultVar.tmp k].toArray:=by exact E)(h1:lk l i=some v1:=by exact E)(h:lk l j=some v2/\lk l k=some v3:=by exact⟨E,E⟩):Step (wQ N (bodyPost P fn R) .ret l w) (R (.returned (tX [v1,v2,v3])) w):=λJ=>fB (vs:=[v1,v2,v3]) I ⟨h1,h.1,h.2,trivial⟩ J
def aC3(h:fn.results=[ResultVar.cell i ty].toArray/\lk l i=some (.pointer (some ⟨b,0,none⟩)):=by exact⟨E,E⟩)(S:St B w0 w fs:=by assumption)(I:vX b fs row tt:=by exact fbQ)(J:P.underlying ty=some ds:=by exact Y6)(M:ds.isRow=true:=by exact E)(O:(P.info? ty).map (·.size)=some m:=by exact iiQ)(Z:row.size=m:=by exact E):Step (wQ N (bodyPost P fn R) .ret l w) (R (.returned (tX [.agg row])) w):=λhR=>by
 obtain⟨q,hq⟩:=I.at_;exact fB (vs:=[.agg row]) h.1 ⟨⟨_,h.2,fZ q S hq J M (by rw[Z];exact O)⟩,trivial⟩ hR
def aC4(h:fn.results=[ResultVar.cell i ty,ResultVar.tmp j].toArray:=by exact E)(h1:lk l j=some v1:=by exact E)(I:lk l i=some (.pointer (some ⟨b,0,none⟩)):=by exact E)(S:St B w0 w fs:=by assumption)(J:vX b fs row tt:=by exact fbQ)(M:P.underlying ty=some ds:=by exact Y6)(O:ds.isRow=true:=by exact E)(Z:(P.info? ty).map (·.size)=some m:=by exact iiQ)(hm:row.size=m:=by exact E):Step (wQ N (bodyPost P fn R) .ret l w) (R (.returned (tX [.agg row,v1])) w):=λhR=>by
 obtain⟨q,hq⟩:=J.at_;exact fB (vs:=[.agg row,v1]) h ⟨⟨_,I,fZ q S hq M O (by rw[hm];exact Z)⟩,h1,trivial⟩ hR
def aC5(I:fn.results=[ResultVar.cell i ty,ResultVar.tmp j,ResultVar.tmp k].toArray:=by exact E)(h1:lk l j=some v1:=by exact E)(h:lk l k=some v2/\lk l i=some (.pointer (some ⟨b,0,none⟩)):=by exact⟨E,E⟩)(S:St B w0 w fs:=by assumption)(J:vX b fs row tt:=by exact fbQ)(M:P.underlying ty=some ds:=by exact Y6)(O:ds.isRow=true:=by exact E)(Z:(P.info? ty).map (·.size)=some m:=by exact iiQ)(hm:row.size=m:=by exact E):Step (wQ N (bodyPost P fn R) .ret l w) (R (.returned (tX [.agg row,v1,v2])) w):=λhR=>by
 obtain⟨q,hq⟩:=J.at_;exact fB (vs:=[.agg row,v1,v2]) I ⟨⟨_,h.2,fZ q S hq M O (by rw[hm];exact Z)⟩,h1,h.1,trivial⟩ hR
def aC6{r:Nat}(I:fn.results=[ResultVar.cell i ty,ResultVar.tmp j,ResultVar.tmp k,ResultVar.tmp r].toArray:=by exact E)(h1:lk l j=some v1:=by exact E)(h:lk l k=some v2/\lk l r=some v3/\lk l i=some (.pointer (some ⟨b,0,none⟩)):=by exact⟨E,E,E⟩)(S:St B w0 w fs:=by assumption)(J:vX b fs row tt:=by exact fbQ)(M:P.underlying ty=some ds:=by exact Y6)(O:ds.isRow=true:=by exact E)(Z:(P.info? ty).map (·.size)=some m:=by exact iiQ)(hm:row.size=m:=by exact E):Step (wQ N (bodyPost P fn R) .ret l w) (R (.returned (tX [.agg row,v1,v2,v3])) w):=λhR=>by
 obtain⟨q,hq⟩:=J.at_;exact fB (vs:=[.agg row,v1,v2,v3]) I ⟨⟨_,h.2.2,fZ q S hq M O (by rw[hm];exact Z)⟩,h1,h.1,h.2.1,trivial⟩ hR
end
def gLQ{B:Prop}(h:Step (wL P N ops Q rest l w) B):Step (wL P N ops Q rest l w) B:=h
def gQQ{B:Prop}(h:Step (wQ N Q ex l w) B):Step (wQ N Q ex l w) B:=h
def gUQ{B:Prop}{C:World->Prop}{Qa:Act->Prop}(h:Step (wU P N ops C Qa rest l) B):Step (wU P N ops C Qa rest l) B:=h
def gAQ{B:Prop}{C:World->Prop}{n:Nat}{ls:List Bool}(h:Step (wA P N ops Q C (n+1) ls.toArray l w) B):Step (wA P N ops Q C (n+1) ls.toArray l w) B:=h
def gGQ{B:Prop}{C:World->Prop}{n m:Nat}{ls:List Bool}(h:Step (wG P N ops Q C n (m+1) ls.toArray l w) B):Step (wG P N ops Q C n (m+1) ls.toArray l w) B:=h
section
variable {K:Act->World->Prop}{x y:Code}{id:Nat}{os:List Oper}{c:Operand}{C:World->Prop}{Qa:Act->Prop}{j t n:Nat}{u:Value}{b:Bool}{listed:Array Bool}{A B:Prop}
def s1Q:Step (wQ N (Exit.then (y.wp P Q) Q) .normal l w) (wC P N y Q l w):=iY
def s2Q:Step (wC P N (.seq x y) Q l w) (wC P N x (Exit.then (y.wp P Q) Q) l w):=aX
def s3Q:Step (wC P N (.region id os.toArray false) Q l w) (wL P N os.toArray Q os l w):=aH
def s4Q:Step (wC P N .skip Q l w) (wQ N Q .normal l w):=uH
def s5Q:Step (wC P N (.block id x) Q l w) (wC P N x (Exit.inBlock id Q) l w):=Ii
def s6Q:Step (wQ N (Exit.inBlock id Q) .normal l w) (wQ N Q .normal l w):=jA
def s7Q:Step (wC P N .ret Q l w) (wQ N Q .ret l w):=rT
def s8Q:Step (wQ N (Exit.then K Q) .ret l w) (wQ N Q .ret l w):=jq
def s9Q:Step (wQ N (Exit.inBlock id Q) .ret l w) (wQ N Q .ret l w):=aaC
def aC7:Step (wC P N (.exit id) Q l w) (wQ N Q (.exit id) l w):=amL
def aC8:Step (wQ N (Exit.then K Q) (.exit id) l w) (wQ N Q (.exit id) l w):=Ci
def aC9:Step (wQ N (Exit.inBlock id Q) (.exit id) l w) (wQ N Q .normal l w):=Ku
def aDa:Step (wL P N ops Q [] l w) (wQ N Q .normal l w):=ahA
def aDb(h:ev l c=some (.bool true)):Step (wC P N (.cond c x y) Q l w) (wC P N x Q l w):=oC h
def aDc(h:ev l c=some (.bool false)):Step (wC P N (.cond c x y) Q l w) (wC P N y Q l w):=oD h
def aDd(I:gS o ops j b t:=by exact⟨E,E⟩)(hv:lk l t=some u:=by exact E)(h:gY u b false o d N:=by exact⟨E,E,E⟩):Step (wL P N ops Q (o::rest) l w) (wL P N ops Q rest ((d,undef)::l) w):=ab9 (wg I.1 I.2 hv h.1) h.2.1 h.2.2
def aDe(I:gS o ops j b t:=by exact⟨E,E⟩)(hv:lk l t=some u:=by exact E)(h:gY u b false o d N:=by exact⟨E,E,E⟩):Step (wU P N ops C Qa (o::rest) l) (wU P N ops C Qa rest ((d,undef)::l)):=amX (wg I.1 I.2 hv h.1) h.2.1 h.2.2
def aDf(h:Region.ready .any ops listed=[]):Step (wA P N ops Q C n listed l w) (wQ N Q .normal l w):=amY h
def awi{G:Prop}(h:G:=by exact cwQ):Step (G/\A) A:=And.intro h
end
inductive Steps:Nat->Prop->Prop->Prop
 |z {A:Prop}:Steps 0 A A
 |s {n:Nat} {A B C:Prop}:Step A B->Steps n B C->Steps (n+1) A C
def Steps.go{n:Nat}{A B:Prop}(h:Steps n A B):B->A:=by
 induction h with
 |z=>exact id
 |s h _ I=>exact λb=>h (I b)
def sQ{A B:Prop}(hs:Step A B:=by first|with_reducible exact aDa|((with_reducible apply gLQ);first|exact q1Q|exact q2Q|exact aDd)|with_reducible exact s1Q|with_reducible exact s2Q|with_reducible exact s3Q|with_reducible exact s4Q|with_reducible exact s5Q|with_reducible exact s6Q|with_reducible exact s7Q|with_reducible exact s8Q|with_reducible exact s9Q|with_reducible exact aC7|with_reducible exact aC8|with_reducible exact aC9|((with_reducible refine aDb ?_);exact E)|((with_reducible refine aDc ?_);exact E)|((with_reducible apply gUQ);first|exact q3Q|exact q4Q|exact aDe)|((with_reducible apply gQQ);first|exact p1Q|exact aC4|exact p2Q|exact aC3|exact p3Q|exact aC5|exact p0Q|exact aC2|exact aC6)):Step A B:=hs
def zQ{A B:Prop}(h:B)(hs:Step A B:=by exact sQ):A:=hs h
def zN{A B:Prop}(n:Nat)(h:B)(hs:Steps n A B:=by repeat' first|exact Steps.z|apply Steps.s|exact sQ):A:=hs.go h
def sQa{A B:Prop}(hs:Step A B:=by first|((with_reducible apply gAQ);first|exact q5Q 0|exact q7Q 0|exact q8Q 0|exact q5Q 1|exact q7Q 1|exact q8Q 1|exact q5Q 2|exact q7Q 2|exact q8Q 2|exact q5Q 3|exact q7Q 3|exact q8Q 3|exact q5Q 4|exact q7Q 4|exact q8Q 4|exact q5Q 5|exact q7Q 5|exact q8Q 5|exact q5Q 6|exact q7Q 6|exact q8Q 6|exact q5Q 7|exact q7Q 7|exact q8Q 7|exact q5Q 8|exact q7Q 8|exact q8Q 8|exact q5Q 9|exact q7Q 9|exact q8Q 9)|((with_reducible apply aDf);kernel_rfl)|exact awi):Step A B:=hs
def eH{A B:Prop}(h:B)(hs:Step A B:=by exact sQa):A:=hs h
def aP{A B:Prop}(n:Nat)(h:B)(hs:Steps n A B:=by repeat' first|exact Steps.z|apply Steps.s|exact sQa):A:=hs.go h
def jf{A B:Prop}(h:B)(hs:Step A B:=by first|((with_reducible apply gGQ);first|exact q6Q 0|exact q9Q 0|exact Lx 0|exact q6Q 1|exact q9Q 1|exact Lx 1|exact q6Q 2|exact q9Q 2|exact Lx 2|exact q6Q 3|exact q9Q 3|exact Lx 3|exact q6Q 4|exact q9Q 4|exact Lx 4|exact q6Q 5|exact q9Q 5|exact Lx 5|exact q6Q 6|exact q9Q 6|exact Lx 6|exact q6Q 7|exact q9Q 7|exact Lx 7|exact q6Q 8|exact q9Q 8|exact Lx 8|exact q6Q 9|exact q9Q 9|exact Lx 9)|exact awi):A:=hs h
section
variable {t:TypeId}{row:Array Value}{id n m:Nat}{os:List Oper}{gs:List Nf}{b off:Nat}{rw_ rw':List Value}{cs:Array Value}{ty:TypeId}{x y:Operand}{C:World->Prop}{ls ls':List Bool}{tt:TypeId}{f:FuncId}{first cap us vs:List Value}{xs ys:List Operand}{ts:Array TypeId}{R:Ending->World->Prop}
def xE(P:Program)(t:TypeId)(row:Array Value):Prop:= ∃z,(∀w,(zeroValue t).run P w=.ok z w)/\z.cells=row
def iL(S:St B w0 w fs)(I:xE P t row)(h:∀b w',St B w0 w' (.Pj b row t::fs)->wL P N ops Q rest ((d,.pointer (some ⟨b,0,none⟩))::l) w')(hw:gM o d N (o.op=.alloc t):=by exact⟨E,E,E,E⟩):wL P N ops Q (o::rest) l w:=by
 obtain⟨z,h1,J⟩:=I;exact mE (V:=λb=>.pointer (some ⟨b,0,none⟩)) S (wn hw.1) hw.2.1 hw.2.2.1 (jJ hw.2.2.2 (h1 w) J) h
def nQ{C:World->Prop}{n:Nat}{ls ls':List Bool}(j:Nat)(I:ops[j]? =some o)(S:St B w0 w fs)(J:xE P t row)(h:∀b w',St B w0 w' (.Pj b row t::fs)->C w'/\wA P N ops Q C n ls'.toArray ((d,.pointer (some ⟨b,0,none⟩))::l) w')(M:CV ls j ls':=by exact slQ)(hw:gM o d N (o.op=.alloc t):=by exact⟨E,E,E,E⟩):wK P N ops Q C n j ls.toArray l w:=by
 obtain⟨z,h1,O⟩:=J;exact lH (V:=λb=>.pointer (some ⟨b,0,none⟩)) I M.eq S (wn hw.1) hw.2.1 hw.2.2.1 (jJ hw.2.2.2 (h1 w) O) h
def zr3:xE prog 3 #[D 0]:=⟨_,zeroValue3,E⟩
def JZ:xE prog 29 #[D 0,D 0]:=⟨_,Tryz.zeroValue29,E⟩
def alf:xE prog 32 #[D 0,D 0,D 0,D 0,D 0,D 0,D 0,D 0]:=⟨_,Tryz.zeroValue32,E⟩
def alg:xE prog 37 #[D 0,.bool false,.bool false,.bool false,.bool false,.bool false,D 0,D 0,D 0,D 0,D 0,D 0,D 0,D 0,.slice none 0 0,.slice none 0 0,.slice none 0 0,D 0]:=⟨_,Tryz.zeroValue37,E⟩
def iI:xE prog 58 #[D 0,D 0,D 0,D 0,D 0,.slice none 0 0]:=⟨_,Tryz.zeroValue58,E⟩
def arh:xE prog 175 #[D 0,.bool false,.bool false,.bool false,.bool false,.bool false,.bool false,.bool false,.bool false]:=⟨_,Tryz.zeroValue175,E⟩
def aem:xE prog 53 #[D 0,D 0,D 0,D 0,D 0,D 0]:=⟨_,Tryz.zeroValue53,E⟩
def alh:xE prog 55 #[D 0,D 0,D 0,D 0,D 0,D 0,D 0,D 0,D 0,D 0,D 0]:=⟨_,Tryz.zeroValue55,E⟩
def wM:xE prog 109 #[D 0,D 0,D 0,D 0]:=⟨_,Tryz.zeroValue109,E⟩
def aDg:xE prog 111 #[D 0,D 0,D 0,D 0,D 0,D 0,D 0]:=⟨_,Tryz.zeroValue111,E⟩
def aDh:xE prog 217 #[D 0,D 0]:=⟨_,Tryz.zeroValue217,E⟩
def awj:xE prog 220 #[D 0,D 0,D 0,D 0]:=⟨_,Tryz.zeroValue220,E⟩
def Ck:xE prog 91 #[.slice none 0 0,D 0]:=⟨_,Tryz.zeroValue91,E⟩
def azT:xE prog 95 #[D 0,.bool false,.slice none 0 0,D 0,.slice none 0 0,D 0,D 0,D 0,D 0,D 0,D 0,D 0,D 0,.bool false,.bool false,.bool false,.bool false,.slice none 0 0,.nilFunc,D 0]:=⟨_,Tryz.zeroValue95,E⟩
def Jg:xE prog 104 #[.pointer none,D 0]:=⟨_,Tryz.zeroValue104,E⟩
def ahf:xE prog 113 #[D 0,D 0,D 0,D 0,D 0,D 0,D 0,D 0,D 0,D 0,D 0,D 0,D 0,.slice none 0 0,.bool false,D 0,D 0,D 0,D 0,D 0,D 0,D 0,D 0]:=⟨_,Tryz.zeroValue113,E⟩
def zR:xE prog 132 #[D 0,D 0,D 0,D 0,D 0,D 0,D 0,D 0,D 0,D 0]:=⟨_,Tryz.zeroValue132,E⟩
def azU:xE prog 185 #[.nilFunc]:=⟨_,Tryz.zeroValue185,E⟩
def oG{a b:Nat}(h:a<=b:=by first|assumption|exact aC _|(dsimp only;omega)|(simp only[length_append,length_cons,length_nil,length_drop,length_take]at*;omega)):a<=b:=h
inductive Out:List Nf->Nat->Nf->List Nf->Prop
 |z {f:Nf} {fs:List Nf}:Out (f::fs) 0 f fs
 |s {f g:Nf} {fs gs:List Nf} {i:Nat}:Out fs i f gs->Out (g::fs) (i+1) f (g::gs)
def Out.eq{fs gs:List Nf}{i:Nat}{f:Nf}(h:Out fs i f gs):fs[i]? =some f/\fs.eraseIdx i=gs:=by
 induction h with
 |z=>exact⟨E,E⟩
 |s _ I=>exact⟨by simpa using I.1,by rw[TA,I.2]⟩
inductive Brs:List Nf->List Nat->List Nf->Prop
 |z {fs:List Nf}:Brs fs [] fs
 |s {fs gs hs:List Nf} {i:Nat} {is:List Nat} {f:Nf}:Out fs i f gs->Brs (f::gs) is hs->Brs fs (i::is) hs
def St.fJ{gs:List Nf}(S:St B w0 w fs)(is:List Nat)(h:Brs fs is gs:=by repeat' first|exact Brs.z|exact Out.z|apply Brs.s|apply Out.s):St B w0 w gs:=by
 induction h with
 |z=>exact S
 |s h _ I=>
  obtain⟨h1,J⟩:=h.eq;have:=S.bring _ h1;rw[J]at this;exact I this
inductive Dls:List Nf->List Nat->List Nf->Prop
 |z {fs:List Nf}:Dls fs [] fs
 |s {fs gs hs:List Nf} {i:Nat} {is:List Nat} {f:Nf}:Out fs i f gs->Dls gs is hs->Dls fs (i::is) hs
def dlQ{fs gs:List Nf}{is:List Nat}(h:Dls fs is gs:=by repeat' first|exact Dls.z|exact Out.z|apply Dls.s|apply Out.s):Dls fs is gs:=h
def St.bg{gs:List Nf}(S:St B w0 w fs)(is:List Nat)(h:Dls fs is gs:=by exact dlQ):St B w0 w gs:=by
 induction h with
 |z=>exact S
 |s h _ I=>
  refine I ?_;rw[<-h.eq.2];exact S.del _
def aO(n:Nat)(S:St B w0 w.drew gs)(is:List Nat)(h:wA P N os.toArray Q (λw'=>St B w0 w' fs) n (replicate n false).toArray l w.drew)(J:Dls gs is fs:=by exact dlQ)(I:P.follows .mixedOrders=true:=by exact mixed)(hn:os.length=n:=by exact E):wC P N (.region id os.toArray true) Q l w:=Lr I hn iQ h
def gT(m n:Nat)(S:St B w0 w.drew gs)(is:List Nat)(h:wG P N os.toArray Q (λw'=>St B w0 w' fs) n m (replicate m false).toArray l w.drew)(J:Dls gs is fs:=by exact dlQ)(I:P.follows .mixedOrders=true:=by exact mixed)(hn:os.length=m:=by exact E):wC P N (.region id os.toArray true) Q l w:=DJ n I hn iQ h
inductive FK:List Value->Nat->List Value->List Value->Prop
 |n {l:List Value}:FK l 0 [] l
 |c {x y:Value} {l cs l':List Value}:FK l 0 cs l'->FK (x::l) 0 (y::cs) (y::l')
 |s {x:Value} {i:Nat} {l cs l':List Value}:FK l i cs l'->FK (x::l) (i+1) cs (x::l')
def FK.spec{l cs l':List Value}{i:Nat}(h:FK l i cs l'):i+cs.length<=l.length/\l.take i++cs++l.drop (i+cs.length)=l':=by
 induction h with
 |n=>simp
 |c _ J=>obtain⟨h1,I⟩:=J;simp only[take_zero,nil_append,Nat.zero_add,length_cons,cons_append,drop_succ_cons]at h1 I⊢;exact⟨by omega,by rw[I]⟩
 | @s x i l cs l' _ J=>obtain⟨h1,I⟩:=J;refine⟨by simp;omega,?_⟩;rw[show i+1+cs.length=(i+cs.length)+1 by omega,take_succ_cons,drop_succ_cons,wO,wO,I]
def FK.eq{l cs l':List Value}{i:Nat}(h:FK l i cs l'):dP l.toArray i cs=l'.toArray:=by
 obtain⟨h1,I⟩:=h.spec;apply Bc.1;rw[jr _ _ _ (by simpa using h1)];simpa using I
def KC(i:Nat)(S:St B w0 w fs)(I:(P.info? ty).map (·.size)=some m)(h:∀w',St B w0 w' fs'->wL P N ops Q rest l w')(hw:o.guard=none/\o.dst=none/\o.op=.store ty x y/\ev l x=some (.pointer (some ⟨b,off,none⟩))/\ev l y=some v:=by exact⟨E,E,E,E,E⟩)(hi:fs[i]? =some (.Pj b rw_.toArray t):=by exact E)(hv:v.cells=cs:=by exact E)(J:cs.size=m:=by exact E)(h1:∀u∈cs.toList,u.oneCell'=true:=by exact dh E)(M:ble (off+m) rw_.toArray.size=true:=by exact E)(hs:FK rw_ off cs.toList rw':=by repeat' first|exact FK.n|apply FK.c|apply FK.s)(O:jL (.Pj b rw'.toArray t) fs i fs':=by repeat' first|exact jL.z|apply jL.s):wL P N ops Q (o::rest) l w:=Jb i S (wn hw.1) hw.2.1 hw.2.2.1 hw.2.2.2.1 hw.2.2.2.2 hi hv I J h1 (fK M) hs.eq O.eq h
def jM(S:St B w0 w fs)(h:∀b w',St B w0 w' (.Pj b row t::fs)->wL P N ops Q rest ((d,.pointer (some ⟨b,0,none⟩))::l) w')(hw:gM o d N (o.op=.box t x/\ev l x=some (.agg row)):=by exact⟨E,E,E,E,E⟩):wL P N ops Q (o::rest) l w:=mE (V:=λb=>.pointer (some ⟨b,0,none⟩)) S (wn hw.1) hw.2.1 hw.2.2.1 (ag7 hw.2.2.2.1 hw.2.2.2.2 E) h
def Y7(S:St B w0 w fs)(h:∀b w',St B w0 w' (.Pj b #[v] t::fs)->wL P N ops Q rest ((d,.pointer (some ⟨b,0,none⟩))::l) w')(hw:gM o d N (o.op=.box t x/\ev l x=some v):=by exact⟨E,E,E,E,E⟩)(hv:v.cells= #[v]:=by exact E):wL P N ops Q (o::rest) l w:=mE (V:=λb=>.pointer (some ⟨b,0,none⟩)) S (wn hw.1) hw.2.1 hw.2.2.1 (ag7 hw.2.2.2.1 hw.2.2.2.2 hv) h
def Wp(S:St B w0 w fs)(h:∀b w',St B w0 w' (.Pj b row tt::fs)->wL P N ops Q rest ((d,.slice (some ⟨b,0,none⟩) 1 1)::l) w')(hw:gM o d N (o.op=.buildSlice t 1 [(0,x)].toArray/\ev l x=some (.agg row)):=by exact⟨E,E,E,E,E⟩)(J:P.underlying t=some (.slice tt):=by exact Y6)(I:(Instr.buildSlice t 1 [(0,Value.agg row)].toArray).run P w=.ok (.slice (some ⟨w.heap.size,0,none⟩) 1 1) (w.alloc (.cells row tt)):=by kernel_rfl):wL P N ops Q (o::rest) l w:=mE (V:=λb=>.slice (some ⟨b,0,none⟩) 1 1) S (wn hw.1) hw.2.1 hw.2.2.1 (bq (vs:=[(0,.agg row)]) hw.2.2.2.1 ⟨E,hw.2.2.2.2,trivial⟩ I) h
def bsI(S:St B w0 w fs)(h:∀b w',St B w0 w' (.Pj b #[v] tt::fs)->wL P N ops Q rest ((d,.slice (some ⟨b,0,none⟩) 1 1)::l) w')(hw:gM o d N (o.op=.buildSlice t 1 [(0,x)].toArray/\ev l x=some v):=by exact⟨E,E,E,E,E⟩)(J:P.underlying t=some (.slice tt):=by exact Y6)(I:(Instr.buildSlice t 1 [(0,v)].toArray).run P w=.ok (.slice (some ⟨w.heap.size,0,none⟩) 1 1) (w.alloc (.cells #[v] tt)):=by kernel_rfl):wL P N ops Q (o::rest) l w:=mE (V:=λb=>.slice (some ⟨b,0,none⟩) 1 1) S (wn hw.1) hw.2.1 hw.2.2.1 (bq (vs:=[(0,v)]) hw.2.2.2.1 ⟨E,hw.2.2.2.2,trivial⟩ I) h
def Im(j:Nat)(I:ops[j]? =some o)(S:St B w0 w fs)(h:∀b w',St B w0 w' (.Pj b row tt::fs)->C w'/\wA P N ops Q C n ls'.toArray ((d,.slice (some ⟨b,0,none⟩) 1 1)::l) w')(J:CV ls j ls':=by exact slQ)(hw:gM o d N (o.op=.buildSlice t 1 [(0,x)].toArray/\ev l x=some (.agg row)):=by exact⟨E,E,E,E,E⟩)(O:P.underlying t=some (.slice tt):=by exact Y6)(M:(Instr.buildSlice t 1 [(0,Value.agg row)].toArray).run P w=.ok (.slice (some ⟨w.heap.size,0,none⟩) 1 1) (w.alloc (.cells row tt)):=by kernel_rfl):wK P N ops Q C n j ls.toArray l w:=lH (V:=λb=>.slice (some ⟨b,0,none⟩) 1 1) I J.eq S (wn hw.1) hw.2.1 hw.2.2.1 (bq (vs:=[(0,.agg row)]) hw.2.2.2.1 ⟨E,hw.2.2.2.2,trivial⟩ M) h
inductive Ap (l:QF):List Operand->List Value->Prop
 |z:Ap l [] []
 |s {x:Operand} {xs:List Operand} {v:Value} {vs:List Value}:ev l x=some v->Ap l xs vs->Ap l (x::xs) (v::vs)
def Ap.JU{xs:List Operand}{vs:List Value}(h:Ap l xs vs):Ux l xs vs:=by
 induction h with
 |z=>exact trivial
 |s h _ I=>exact⟨h,I⟩
def zn(I:∀args w,(callFunc f args).run P w=.ok (.enter f args) w)(J:Calls P f us.toArray w R)(h:∀e w',R e w'-> ∃v,e=.returned v/\wL P N ops Q rest ((d,v)::l) w')(hw:gM o d N (o.op=.call {callee:=.value x,args:=xs.toArray,argTypes:=ts}):=by exact⟨E,E,E,E⟩)(hv:ev l x=some (.func (.func f) first.toArray cap.toArray):=by exact E)(M:Ap l xs vs:=by repeat' first|exact Ap.z|apply Ap.s rfl)(O:first++vs++cap=us:=by exact E):wL P N ops Q (o::rest) l w:=DF (wn hw.1) hw.2.1 hw.2.2.1 (aci hw.2.2.2 hv I M.JU O) J h
def pQ{C:World->Prop}{n:Nat}{ls ls':List Bool}(j:Nat)(I:ops[j]? =some o)(J:∀args w,(callFunc f args).run P w=.ok (.enter f args) w)(M:Calls P f us.toArray w R)(h:∀e w',R e w'-> ∃v,e=.returned v/\C w'/\wA P N ops Q C n ls'.toArray ((d,v)::l) w')(O:CV ls j ls':=by exact slQ)(hw:gM o d N (o.op=.call {callee:=.value x,args:=xs.toArray,argTypes:=ts}):=by exact⟨E,E,E,E⟩)(hv:ev l x=some (.func (.func f) first.toArray cap.toArray):=by exact E)(Z:Ap l xs vs:=by repeat' first|exact Ap.z|apply Ap.s rfl)(hu:first++vs++cap=us:=by exact E):wK P N ops Q C n j ls.toArray l w:=zM I O.eq (wn hw.1) hw.2.1 hw.2.2.1 (aci hw.2.2.2 hv J Z.JU hu) M h
def lN{C:World->Prop}{n:Nat}{ls ls':List Bool}(j:Nat)(I:ops[j]? =some o)(J:∀args w,(callFunc f args).run P w=.ok (.enter f args) w)(M:Calls P f vs.toArray w R)(h:∀e w',R e w'-> ∃v,e=.returned v/\C w'/\wA P N ops Q C n ls'.toArray ((d,v)::l) w')(O:CV ls j ls':=by exact slQ)(hw:gM o d N (o.op=.call {callee:=.value (.func f),args:=xs.toArray,argTypes:=ts}):=by exact⟨E,E,E,E⟩)(Z:Ux l xs vs:=by repeat' first|exact trivial|refine⟨rfl,?_⟩):wK P N ops Q C n j ls.toArray l w:=zM I O.eq (wn hw.1) hw.2.1 hw.2.2.1 (jK hw.2.2.2 J Z) M h
def MQ{g:Fn}(h:o.op=.makeFunc g xs.toArray ys.toArray:=by exact E)(I:Ap l xs vs:=by repeat' first|exact Ap.z|apply Ap.s rfl)(J:Ap l ys us:=by repeat' first|exact Ap.z|apply Ap.s rfl):kT P N l o w (.func g vs.toArray us.toArray):=Oo h I.JU J.JU
end
inductive Ra (l:QF):List (Nat×Operand)->List (Nat×Value)->Prop
 |z:Ra l [] []
 |s {i:Nat} {x:Operand} {xs:List (Nat×Operand)} {v:Value} {vs:List (Nat×Value)}:ev l x=some v->Ra l xs vs->Ra l ((i,x)::xs) ((i,v)::vs)
def Ra.evp{xs:List (Nat×Operand)}{vs:List (Nat×Value)}(h:Ra l xs vs):EvP l xs vs:=by
 induction h with
 |z=>exact trivial
 |s h _ I=>exact⟨E,h,I⟩
def iE{t:TypeId}{xs:List (Nat×Operand)}{vs:List (Nat×Value)}(h:o.op=.build t xs.toArray:=by exact E)(I:Ra l xs vs:=by repeat' first|exact Ra.z|apply Ra.s rfl)(J:(Instr.build t vs.toArray).run P w=.ok v w:=by kernel_rfl):kT P N l o w v:=GK h I.evp J
section
variable {kd:IntKind}{xo yo:Operand}{x y z:Int}{t tt:TypeId}
def jB(I:o.op=.binOp .add t xo yo tt/\ev l xo=some (.int .i64 x)/\ev l yo=some (.int .i64 y):=by exact⟨E,E,E⟩)(J:x+y=z:=by omega)(h: -9223372036854775808<=z/\z<=9223372036854775807:=by omega):kT P N l o w (.int .i64 z):=cO I.1 I.2.1 I.2.2 (ag8 J h)
def ysu(I:o.op=.binOp .sub t xo yo tt/\ev l xo=some (.int .i64 x)/\ev l yo=some (.int .i64 y):=by exact⟨E,E,E⟩)(J:x-y=z:=by omega)(h: -9223372036854775808<=z/\z<=9223372036854775807:=by omega):kT P N l o w (.int .i64 z):=cO I.1 I.2.1 I.2.2 (apO J h)
def mY{p e:TypeId}{b off n c s:Nat}{i:Int}{xo yo:Operand}(k:Nat)(h:o.op=.indexAddr p xo yo/\ev l xo=some (.slice (some ⟨b,off,none⟩) n c)/\ev l yo=some (.int kd i):=by exact⟨E,E,E⟩)(J:P.underlying p=some (.slice e):=by exact Y6)(M:(P.info? e).map (·.size)=some s:=by exact iiQ)(I:i=k:=by first|rfl|omega|simp)(O:k<n:=by first|omega|simp|decide):kT P N l o w (.pointer (some ⟨b,off+k*s,none⟩)):=aQ h.1 h.2.1 h.2.2 (jD k J M I O)
end
section
variable {b m off:Nat}{row row' cs:Array Value}{t ty:TypeId}{x y:Operand}{C:World->Prop}{n:Nat}{ls ls':List Bool}
def kU(i:Nat)(S:St B w0 w fs)(I:(P.info? ty).map (·.size)=some m)(h:∀w',St B w0 w' fs'->wL P N ops Q rest l w')(hw:o.guard=none/\o.dst=none/\o.op=.store ty x y/\ev l x=some (.pointer (some ⟨b,off,none⟩))/\ev l y=some v:=by exact⟨E,E,E,E,E⟩)(hi:fs[i]? =some (.Pj b row t):=by exact E)(hv:v.cells=cs:=by exact E)(J:cs.size=m:=by exact E)(h1:∀u∈cs.toList,u.oneCell'=true:=by exact dh E)(M:ble (off+m) row.size=true:=by exact E)(hs:dP row off cs.toList=row':=by exact E)(O:jL (.Pj b row' t) fs i fs':=by repeat' first|exact jL.z|apply jL.s):wL P N ops Q (o::rest) l w:=Jb i S (wn hw.1) hw.2.1 hw.2.2.1 hw.2.2.2.1 hw.2.2.2.2 hi hv I J h1 (fK M) hs O.eq h
def stA(i:Nat)(S:St B w0 w fs)(I:(P.info? ty).map (·.size)=some m)(h:∀w',St B w0 w' fs'->wL P N ops Q rest l w')(hw:o.guard=none/\o.dst=none/\o.op=.store ty x y/\ev l x=some (.pointer (some ⟨b,0,none⟩))/\ev l y=some v:=by exact⟨E,E,E,E,E⟩)(hi:fs[i]? =some (.Pj b row t):=by exact E)(hv:v.cells=cs:=by exact E)(J:cs.size=m:=by exact E)(h1:∀u∈cs.toList,u.oneCell'=true:=by exact dh E)(hs:row.size=cs.size:=by exact E)(M:ble (0+m) row.size=true:=by exact E)(O:jL (.Pj b cs t) fs i fs':=by repeat' first|exact jL.z|apply jL.s):wL P N ops Q (o::rest) l w:=Jb i S (wn hw.1) hw.2.1 hw.2.2.1 hw.2.2.2.1 hw.2.2.2.2 hi hv I J h1 (fK M) (uW hs) O.eq h
def snz(j:Nat)(I:ops[j]? =some o)(i:Nat)(S:St B w0 w fs)(J:(P.info? ty).map (·.size)=some m)(h:∀w',St B w0 w' fs'->C w'/\wA P N ops Q C n ls'.toArray l w')(M:CV ls j ls':=by exact slQ)(hw:o.guard=none/\o.dst=none/\o.op=.store ty x y/\ev l x=some (.pointer (some ⟨b,off,none⟩))/\ev l y=some v:=by exact⟨E,E,E,E,E⟩)(hi:fs[i]? =some (.Pj b row t):=by exact E)(hv:v.cells=cs:=by exact E)(O:cs.size=m:=by exact E)(h1:∀u∈cs.toList,u.oneCell'=true:=by exact dh E)(Z:ble (off+m) row.size=true:=by exact E)(hs:dP row off cs.toList=row':=by exact E)(hf:jL (.Pj b row' t) fs i fs':=by repeat' first|exact jL.z|apply jL.s):wK P N ops Q C n j ls.toArray l w:=xC I M.eq i S (wn hw.1) hw.2.1 hw.2.2.1 hw.2.2.2.1 hw.2.2.2.2 hi hv J O h1 (fK Z) hs hf.eq h
def snA(j:Nat)(I:ops[j]? =some o)(i:Nat)(S:St B w0 w fs)(J:(P.info? ty).map (·.size)=some m)(h:∀w',St B w0 w' fs'->C w'/\wA P N ops Q C n ls'.toArray l w')(M:CV ls j ls':=by exact slQ)(hw:o.guard=none/\o.dst=none/\o.op=.store ty x y/\ev l x=some (.pointer (some ⟨b,0,none⟩))/\ev l y=some v:=by exact⟨E,E,E,E,E⟩)(hi:fs[i]? =some (.Pj b row t):=by exact E)(hv:v.cells=cs:=by exact E)(O:cs.size=m:=by exact E)(h1:∀u∈cs.toList,u.oneCell'=true:=by exact dh E)(hs:row.size=cs.size:=by exact E)(Z:ble (0+m) row.size=true:=by exact E)(hf:jL (.Pj b cs t) fs i fs':=by repeat' first|exact jL.z|apply jL.s):wK P N ops Q C n j ls.toArray l w:=xC I M.eq i S (wn hw.1) hw.2.1 hw.2.2.1 hw.2.2.2.1 hw.2.2.2.2 hi hv J O h1 (fK Z) (uW hs) hf.eq h
end
end
end Go.Proofs.YtceeleolddkibaaGreatDoor
