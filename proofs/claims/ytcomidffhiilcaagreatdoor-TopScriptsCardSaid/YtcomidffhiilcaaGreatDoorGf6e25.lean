import Derived.Deep.DeepCutAuto
import Derived.Test.YtcomidffhiilcaaGreatDoorG5cb02
import Derived.Test.YtcomidffhiilcaaGreatDoorGd67e8
import Derived.Test.YtcomidffhiilcaaGreatDoorGeb831
set_option maxRecDepth 100000
set_option maxHeartbeats 8000000
set_option linter.unusedSimpArgs false
set_option linter.unusedVariables false
namespace Go.Proofs.YtcomidffhiilcaaGreatDoor
open ChangeShapes WideShapes RowKit
abbrev gN (o:Oper) (d N:Nat):Prop:=o.guard=none/\o.dst=some d/\Nat.blt d N=true
abbrev gM (o:Oper) (d N:Nat) (p:Prop):Prop:=o.guard=none/\o.dst=some d/\Nat.blt d N=true/\p
abbrev gS (o:Oper) (ops:Array Oper) (j:Nat) (b:Bool) (t:Nat):Prop:=o.guard=some (j,b)/\(ops[j]?).bind (·.dst)=some t
abbrev gY (u:Value) (b c:Bool) (o:Oper) (d N:Nat):Prop:=(yl u==some b)=c/\o.dst=some d/\Nat.blt d N=true
inductive sF (b:Nat):List Fact->Array Value->TypeId->Prop
 | z {row:Array Value} {t:TypeId} {fs:List Fact}:sF b (.blk b row t::fs) row t
 | s {row:Array Value} {t:TypeId} {f:Fact} {fs:List Fact}:sF b fs row t->sF b (f::fs) row t
theorem fbQ {b:Nat} {fs:List Fact} {row:Array Value} {t:TypeId} (h:sF b fs row t:=by repeat' first | exact sF.z | apply sF.s):sF b fs row t:=h
theorem sF.at_ {b:Nat} {fs:List Fact} {row:Array Value} {t:TypeId} (h:sF b fs row t): ∃ i:Nat,fs[i]? =some (Fact.blk b row t):=by
 induction h with
 | z=>exact ⟨0,rfl⟩
 | s _ ih=>obtain ⟨i,hi⟩:=ih;exact ⟨i+1,by simpa using hi⟩
inductive Co:List Fact->List Fact->Prop
 | r {fs:List Fact}:Co fs fs
 | k {f:Fact} {fs gs:List Fact}:Co fs gs->Co (f::fs) (f::gs)
 | d {f:Fact} {fs gs:List Fact}:Co fs gs->Co fs (f::gs)
 | a {fs gs:List Fact}:Co fs (fs++gs)
theorem Co.sub {fs gs:List Fact} (h:Co fs gs):fs.Sublist gs:=by
 induction h with
 | r=>exact List.Sublist.refl _
 | k _ ih=>exact ih.cons_cons _
 | d _ ih=>exact ih.cons _
 | a=>exact List.sublist_append_left _ _
theorem TS {t:TypeId} {ds:TypeDesc} (h:Tryz.prog.underlying t=some ds:=by with_reducible first | exact Tryz.underlying3 | exact Tryz.underlying150 | exact Tryz.underlying121 | exact Tryz.underlying53 | exact Tryz.underlying74 | exact Tryz.underlying104 | exact Tryz.underlying48 | exact Tryz.underlying155 | exact Tryz.underlying46 | exact Tryz.underlying85 | exact Tryz.underlying96 | exact Tryz.underlying204 | exact Tryz.underlying106 | exact Tryz.underlying265 | exact Tryz.underlying97 | exact Tryz.underlying217 | exact Tryz.underlying23 | exact Tryz.underlying218 | exact Tryz.underlying224 | exact Tryz.underlying108 | exact Tryz.underlying4 | exact Tryz.underlying36 | exact Tryz.underlying58 | exact Tryz.underlying125 | exact Tryz.underlying93 | exact Tryz.underlying35 | exact Tryz.underlying158 | exact Tryz.underlying132 | exact Tryz.underlying40 | exact Tryz.underlying278 | exact Tryz.underlying33 | exact Tryz.underlying32 | exact Tryz.underlying273 | exact Tryz.underlying123 | exact Tryz.underlying37 | exact Tryz.underlying38 | exact Tryz.underlying194 | exact Tryz.underlying79 | exact Tryz.underlying203 | exact Tryz.underlying276 | exact Tryz.underlying107 | exact Tryz.underlying231 | exact Tryz.underlying5 | exact Tryz.underlying101 | exact Tryz.underlying100 | exact Tryz.underlying222 | exact Tryz.underlying221 | exact Tryz.underlying83 | exact Tryz.underlying44 | exact Tryz.underlying281 | exact Tryz.underlying22 | exact Tryz.underlying56 | exact Tryz.underlying99 | exact Tryz.underlying78 | exact Tryz.underlying110 | exact Tryz.underlying30):Tryz.prog.underlying t=some ds:=h
theorem iiQ {t:TypeId} {m:Nat} (h:(Tryz.prog.info? t).map (·.size)=some m:=by with_reducible first | exact wm | exact anQ | exact tY | exact apU | exact atq | exact atb | exact aC4 | exact Al | exact an7 | exact ato | exact anW | exact atm | exact an5 | exact Lf | exact an1 | exact atr | exact atg | exact an4 | exact an6 | exact atc | exact ath | exact alg | exact ajS | exact an2 | exact awz | exact anY | exact ati | exact anV | exact atu | exact ajT | exact as9 | exact ajU | exact TN | exact as8 | exact aC5 | exact anT | exact anS | exact att | exact atj | exact atp | exact atl | exact ate | exact anU | exact ata | exact anR | exact anZ | exact atd | exact an0 | exact anX | exact atf | exact an3 | exact an8 | exact atn):(Tryz.prog.info? t).map (·.size)=some m:=h
section
variable {P:Program} {N:Nat} {l l':Slots} {w w' w0:World} {ops:Array Oper} {o:Oper} {rest:List Oper} {Q:Exit->Act->World->Prop} {d B:Nat} {v p:Value} {fs fs':List Fact} {ex:Exit}
section
variable {x y:Operand} {t tt s:TypeId} {ds:TypeDesc} {b k f o0 n c m:Nat} {g:Nat->Nat} {row:Array Value} {A:Option Addr} {e:TypeId}
theorem zfa (ho:o.op= .fieldAddr s x f/\ev l x=some (.pointer (some ⟨b,o0,none⟩)):=by exact ⟨rfl,rfl⟩) (hf: ∀ (b o:Nat) (w:World),(Instr.fieldAt s (.pointer (some ⟨b,o,none⟩)) f).run P w= .ok (.pointer (some ⟨b,g o,none⟩)) w:=by with_reducible first | exact ahp | exact acj | exact aci | exact ahO | exact ang | exact anA | exact ahJ | exact ahF | exact anF | exact ahq | exact anB | exact ahE | exact ahw | exact anu | exact ahC | exact ahU | exact ahD | exact ahs | exact ano | exact ah1 | exact anC | exact aht | exact anp | exact ahL | exact ani | exact ahx | exact am0 | exact anD | exact anj | exact ahr | exact ahy | exact ahS | exact ah4 | exact ana | exact anz | exact am1 | exact ahV | exact amY | exact amZ | exact anH | exact ahA | exact anh | exact ahI | exact ah3 | exact ank | exact anm | exact ahG | exact anl | exact ahT | exact anv | exact anM | exact ant | exact ahM | exact ahX | exact anO | exact ahW | exact anE | exact anw | exact anx | exact anr | exact ahN | exact Ao | exact Ap | exact Am | exact ahR | exact ahH | exact ahY | exact ane | exact am2 | exact anP | exact ah5 | exact ahK | exact ah0 | exact adP | exact anN | exact ahz | exact anb | exact anc | exact anq | exact ahP | exact Ia | exact ah2 | exact am3 | exact am6 | exact Om | exact Oo | exact ahZ | exact Xr | exact anI | exact anK | exact ahQ | exact am4 | exact am5 | exact ahu | exact ahv | exact adQ | exact Xt | exact Xq | exact Xp | exact ahB | exact am7 | exact am9 | exact am8):iP P N l o w (.pointer (some ⟨b,g o0,none⟩)):=Gn ho.1 ho.2 (hf b o0 w)
theorem zld (ho:o.op= .load t x/\ev l x=some (.pointer (some ⟨b,k,none⟩)):=by exact ⟨rfl,rfl⟩) (hu:P.underlying t=some ds:=by exact TS) (hd:ds.isRow=false:=by exact rfl) (S:St B w0 w fs:=by assumption) (hf:sF b fs row tt:=by exact fbQ) (hk:row[k]? =some v:=by exact rfl):iP P N l o w v:=by
 obtain ⟨i,hi⟩:=hf.at_;exact ah ho.1 ho.2 (gU hu hd (St.cl i S hi hk))
theorem zlr (ho:o.op= .load t x/\ev l x=some (.pointer (some ⟨b,0,none⟩)):=by exact ⟨rfl,rfl⟩) (hu:P.underlying t=some ds:=by exact TS) (hd:ds.isRow=true:=by exact rfl) (S:St B w0 w fs:=by assumption) (hf:sF b fs row tt:=by exact fbQ) (hz:(P.info? t).map (·.size)=some m:=by exact iiQ) (hm:row.size=m:=by exact rfl):iP P N l o w (.agg row):=by
 obtain ⟨i,hi⟩:=hf.at_;exact ah ho.1 ho.2 (jc i S hi hu hd hz hm)
theorem zln (ho:o.op= .call { callee:= .builtin .len,args:= #[x],argTypes:= #[t] }/\ev l x=some (.slice A n c):=by exact ⟨rfl,rfl⟩) (hu:P.underlying t=some (.slice e):=by exact TS):iP P N l o w (.int .i64 ((n:Nat):Int)):=cu (xs:=[x]) (vs:=[_]) ho.1 ⟨ho.2,trivial⟩ λ_=>kT rfl hu
theorem znl (ho:o.op= .nilCheck x:=by exact rfl) (hx:ev l x=some p:=by exact rfl) (hp:match p with | .pointer (some _)=>True | .func (.func _) _ _=>True | .func (.via ..) _ _=>True | _=>False:=by exact trivial):iP P N l o w p:=abS ho hx hp
section
variable {kd:IntKind} {xo yo:Operand} {x y:Int}
def zRC (x y:Int):Bool->BinOp->Prop
 | true,.lss=>x<y
 | false,.lss=> ¬ x<y
 | true,.leq=>x<=y
 | false,.leq=> ¬ x<=y
 | true,.gtr=>y<x
 | false,.gtr=> ¬ y<x
 | true,.geq=>y<=x
 | false,.geq=> ¬ y<=x
 | true,.eql=>x=y
 | false,.eql=> ¬ x=y
 | true,.neq=> ¬ x=y
 | false,.neq=>x=y
 | _,_=>False
theorem zcm {q:Bool} {op:BinOp} (ho:o.op= .binOp op t xo yo tt/\ev l xo=some (.int kd x)/\ev l yo=some (.int kd y):=by exact ⟨rfl,rfl,rfl⟩) (h:zRC x y q op:=by dsimp only [zRC]<;>first | assumption | decide):iP P N l o w (.bool q):=by
 refine aC ho.1 ho.2.1 ho.2.2 ?_
 cases q<;>cases op<;>first | exact h.elim | exact Og h | exact Oh h | exact Xi h | exact Xj h | exact H6 h | exact H7 h | exact Xk h | exact Xl h | exact Oi h | exact Oj h | exact H8 h | exact Dr h
theorem zco {q:Bool} {op:BinOp} (ho:o.op= .binOp op t xo yo tt/\ev l xo=some (.int kd x)/\ev l yo=some (.int kd y):=by exact ⟨rfl,rfl,rfl⟩) (h:zRC x y q op:=by dsimp only [zRC]<;>omega):iP P N l o w (.bool q):=zcm ho h
end
theorem apY {P:Program} {w:World} {t:TypeId} {xo yo:Operand} {a b:ByteArray} {q:Bool} (h:(a.toList==b.toList)=q):(do eqGuard .eql t xo yo (.string a) (.string b);binOp .eql t (.string a) (.string b):Sem Value).run P w= .ok (.bool q) w:=by
 subst h;simp [binOp,eqGuard_at_string,go_sem,Op.stringOp]
theorem awI {xo yo:Operand} {a b:ByteArray} (ho:o.op= .binOp .eql t xo yo tt/\ev l xo=some (.string a)/\ev l yo=some (.string b):=by exact ⟨rfl,rfl,rfl⟩) (h:(a.toList==b.toList)=true:=by decide+kernel):iP P N l o w (.bool true):=aC ho.1 ho.2.1 ho.2.2 (apY h)
theorem awJ {xo yo:Operand} {a b:ByteArray} (ho:o.op= .binOp .eql t xo yo tt/\ev l xo=some (.string a)/\ev l yo=some (.string b):=by exact ⟨rfl,rfl,rfl⟩) (h:(a.toList==b.toList)=false:=by decide+kernel):iP P N l o w (.bool false):=aC ho.1 ho.2.1 ho.2.2 (apY h)
end
end
abbrev Ja (t:TypeId) (v:Value):Prop:= ∀ w,(Instr.build t ([]:List (Nat×Value)).toArray).run Tryz.prog w= .ok v w
theorem awK:Ja 32 (.agg #[iV 0,iV 0]):=λ_=>kQ
theorem awL:Ja 35 (.agg #[iV 0,iV 0,iV 0,iV 0,iV 0,iV 0,iV 0,iV 0]):=λ_=>kQ
theorem awM:Ja 40 (.agg #[iV 0,.bool false,.bool false,.bool false,.bool false,.bool false,iV 0,iV 0,iV 0,iV 0,iV 0,iV 0,iV 0,iV 0,.slice none 0 0,.slice none 0 0,.slice none 0 0,iV 0]):=λ_=>kQ
theorem awN:Ja 150 (.agg #[iV 0,iV 0,iV 0,iV 0,iV 0,.slice none 0 0]):=λ_=>kQ
theorem awO:Ja 221 (.agg #[iV 0,.bool false,.bool false,.bool false,.bool false,.bool false,.bool false,.bool false,.bool false]):=λ_=>kQ
theorem awP:Ja 46 (.agg #[iV 0,iV 0,iV 0,iV 0,iV 0,iV 0]):=λ_=>kQ
theorem awQ:Ja 53 (.agg #[iV 0,iV 0,iV 0,iV 0,iV 0,iV 0,iV 0,iV 0,iV 0,iV 0,iV 0]):=λ_=>kQ
theorem awR:Ja 48 (.agg #[iV 0,iV 0,iV 0,iV 0]):=λ_=>kQ
theorem awS:Ja 123 (.agg #[iV 0,iV 0,iV 0,iV 0,iV 0,iV 0,iV 0]):=λ_=>kQ
theorem awT:Ja 273 (.agg #[iV 0,iV 0]):=λ_=>kQ
theorem awU:Ja 276 (.agg #[iV 0,iV 0,iV 0,iV 0]):=λ_=>kQ
theorem atE:Ja 99 (.agg #[iV 0,iV 0]):=λ_=>kQ
theorem atF:Ja 106 (.agg #[.slice none 0 0,iV 0]):=λ_=>kQ
theorem atG:Ja 110 (.agg #[iV 0,.bool false,.slice none 0 0,iV 0,.slice none 0 0,iV 0,iV 0,iV 0,iV 0,iV 0,iV 0,iV 0,iV 0,.bool false,.bool false,.bool false,.bool false,.slice none 0 0,.nilFunc,iV 0]):=λ_=>kQ
theorem atH:Ja 85 (.agg #[.pointer none,iV 0]):=λ_=>kQ
theorem atI:Ja 125 (.agg #[iV 0,iV 0,iV 0,iV 0,iV 0,iV 0,iV 0,iV 0,iV 0,iV 0,iV 0,iV 0,iV 0,.slice none 0 0,.bool false,iV 0,iV 0,iV 0,iV 0,iV 0,iV 0,iV 0,iV 0]):=λ_=>kQ
theorem atJ:Ja 155 (.agg #[iV 0,iV 0,iV 0,iV 0,iV 0,iV 0,iV 0,iV 0,iV 0,iV 0]):=λ_=>kQ
section
variable {P:Program} {N:Nat} {l l':Slots} {w w' w0:World} {ops:Array Oper} {o:Oper} {rest:List Oper} {Q:Exit->Act->World->Prop} {d B:Nat} {v p:Value} {fs fs':List Fact} {ex:Exit}
section
variable {x y:Operand} {t tt s:TypeId} {ds:TypeDesc} {b k f o0 n c m:Nat} {g:Nat->Nat} {row:Array Value} {A:Option Addr} {e:TypeId}
theorem ybz {row:Array Value} (ho:o.op= .build t ([]:List (Nat×Operand)).toArray:=by exact rfl) (hr: ∀ w,(Instr.build t ([]:List (Nat×Value)).toArray).run P w= .ok (.agg row) w:=by with_reducible first | exact awK | exact awL | exact awM | exact awN | exact awO | exact awP | exact awQ | exact awR | exact awS | exact awT | exact awU | exact atE | exact atF | exact atG | exact atH | exact atI | exact atJ):iP P N l o w (.agg row):=xC (vs:=[]) ho trivial (hr w)
theorem y0Q (hy:iP P N l o w v:=by first | exact ym | exact ya | exact yx | exact yno | exact znl | exact zfa | exact zld | exact zlr | exact zln | exact ypT | exact Lu | exact ybz | exact awI | exact awJ | exact zcm (q:=true) | exact zcm (q:=false) | exact zco (q:=true) | exact zco (q:=false)):iP P N l o w v:=hy
end
inductive vN:Nat->List Bool->Nat->List Bool->Prop
 | z {l:List Bool}:vN 0 (false::l) 0 (true::l)
 | t {k i:Nat} {l l':List Bool}:vN k l i l'->vN k (true::l) (i+1) (true::l')
 | f {k i:Nat} {l l':List Bool}:vN k l i l'->vN (k+1) (false::l) (i+1) (false::l')
theorem nfQ {k i:Nat} {l l':List Bool} (h:vN k l i l':=by repeat' first | exact vN.z | apply vN.t | apply vN.f):vN k l i l':=h
theorem vN.eq {k i:Nat} {l l':List Bool} (h:vN k l i l'):l.toArray.setIfInBounds i true=l'.toArray:=by
 suffices h2:l.set i true=l' by simp [h2]
 induction h with
 | z=>rfl
 | t _ ih=>rw [List.set_cons_succ,ih]
 | f _ ih=>rw [List.set_cons_succ,ih]
inductive zm:List Bool->Nat->List Bool->Prop
 | z {b:Bool} {l:List Bool}:zm (b::l) 0 (true::l)
 | s {b:Bool} {i:Nat} {l l':List Bool}:zm l i l'->zm (b::l) (i+1) (b::l')
theorem slQ {i:Nat} {l l':List Bool} (h:zm l i l':=by repeat' first | exact zm.z | apply zm.s):zm l i l':=h
theorem zm.eq {i:Nat} {l l':List Bool} (h:zm l i l'):l.toArray.setIfInBounds i true=l'.toArray:=by
 suffices h2:l.set i true=l' by simp [h2]
 induction h with
 | z=>rfl
 | s _ ih=>rw [List.set_cons_succ,ih]
def Step (A B:Prop):Prop:=B->A
section
variable {C:World->Prop} {Qa:Act->Prop} {j:Nat} {t:Nat} {u:Value} {b:Bool}
theorem q1Q (hw:gN o d N:=by exact ⟨rfl,rfl,rfl⟩) (hy:iP P N l o w v:=by exact y0Q):Step (wL P N ops Q (o::rest) l w) (wL P N ops Q rest ((d,v)::l) w):=λh=>bq (wn hw.1) hw.2.1 hw.2.2 hy h
theorem q2Q (hg:gS o ops j b t:=by exact ⟨rfl,rfl⟩) (hv:lk l t=some u:=by exact rfl) (hr:gY u b true o d N:=by exact ⟨rfl,rfl,rfl⟩) (hy:iP P N l o w v:=by exact y0Q):Step (wL P N ops Q (o::rest) l w) (wL P N ops Q rest ((d,v)::l) w):=λh=>bq (wg hg.1 hg.2 hv hr.1) hr.2.1 hr.2.2 hy h
theorem q3Q (hw:gN o d N:=by exact ⟨rfl,rfl,rfl⟩) (hy: ∀ w,C w->iP P N l o w v:=by (intro w S;exact y0Q)):Step (wU P N ops C Qa (o::rest) l) (wU P N ops C Qa rest ((d,v)::l)):=λh=>Mx (wn hw.1) hw.2.1 hw.2.2 hy h
theorem q4Q (hg:gS o ops j b t:=by exact ⟨rfl,rfl⟩) (hv:lk l t=some u:=by exact rfl) (hr:gY u b true o d N:=by exact ⟨rfl,rfl,rfl⟩) (hy: ∀ w,C w->iP P N l o w v:=by (intro w S;exact y0Q)):Step (wU P N ops C Qa (o::rest) l) (wU P N ops C Qa rest ((d,v)::l)):=λh=>Mx (wg hg.1 hg.2 hv hr.1) hr.2.1 hr.2.2 hy h
theorem St.fit {gs:List Fact} (S:St B w0 w gs) (h:Co fs gs:=by repeat' first | exact Co.r | exact Co.a | apply Co.k | apply Co.d):St B w0 w fs:=S.sub h.sub
theorem cwQ {G:Prop} (h:G:=by first | assumption | exact St.fit ‹_›):G:=h
abbrev gR (ops:Array Oper) (ls:List Bool) (i:Nat):Prop:=Region.noSelect ops=true/\Region.free .any ops ls.toArray i=true/\(Region.ready .any ops ls.toArray).contains i=true
section
variable {n m i:Nat} {listed listed':Array Bool}
theorem XF {ls ls':List Bool} (q:Nat) (hl:vN q ls i ls':=by exact nfQ) (hi:ops[i]? =some o:=by exact rfl) (hw:gN o d N:=by exact ⟨rfl,rfl,rfl⟩) (hy: ∀ w,C w->iP P N l o w v:=by (intro w S;exact y0Q)) (hS:C w:=by exact cwQ) (hs:gR ops ls i:=by exact ⟨kQ,kQ,kQ⟩):Step (wA P N ops Q C (n+1) ls.toArray l w) (wA P N ops Q C n ls'.toArray ((d,v)::l) w):=λh=>Dt hi hs.1 hs.2.1 hs.2.2 hS hl.eq (wn hw.1) hw.2.1 hw.2.2 hy h
theorem XG {ls ls':List Bool} (q:Nat) (hl:vN q ls i ls':=by exact nfQ) (hi:ops[i]? =some o:=by exact rfl) (hw:gN o d N:=by exact ⟨rfl,rfl,rfl⟩) (hy: ∀ w,C w->iP P N l o w v:=by (intro w S;exact y0Q)) (hS:C w:=by exact cwQ) (hs:gR ops ls i:=by exact ⟨kQ,kQ,kQ⟩) (hnl:ls.toArray.getD n true=false:=by exact rfl) (hni:wS ops n i=true:=by kernel_rfl) (hne:Nat.beq n i=false:=by exact rfl):Step (wG P N ops Q C n (m+1) ls.toArray l w) (wG P N ops Q C n m ls'.toArray ((d,v)::l) w):=λh=>l9 hi hs.1 hs.2.1 hs.2.2 hnl hni hne hS hl.eq (wn hw.1) hw.2.1 hw.2.2 hy h
theorem XH {ls ls':List Bool} (q:Nat) (hl:vN q ls i ls':=by exact nfQ) (hi:ops[i]? =some o:=by exact rfl) (hg:gS o ops j b t:=by exact ⟨rfl,rfl⟩) (hv:lk l t=some u:=by exact rfl) (hr0:gY u b true o d N:=by exact ⟨rfl,rfl,rfl⟩) (hy: ∀ w,C w->iP P N l o w v:=by (intro w S;exact y0Q)) (hS:C w:=by exact cwQ) (hs:gR ops ls i:=by exact ⟨kQ,kQ,kQ⟩):Step (wA P N ops Q C (n+1) ls.toArray l w) (wA P N ops Q C n ls'.toArray ((d,v)::l) w):=λh=>Dt hi hs.1 hs.2.1 hs.2.2 hS hl.eq (wg hg.1 hg.2 hv hr0.1) hr0.2.1 hr0.2.2 hy h
theorem XI {ls ls':List Bool} (q:Nat) (hl:vN q ls i ls':=by exact nfQ) (hi:ops[i]? =some o:=by exact rfl) (hg:gS o ops j b t:=by exact ⟨rfl,rfl⟩) (hv:lk l t=some u:=by exact rfl) (hr0:gY u b false o d N:=by exact ⟨rfl,rfl,rfl⟩) (hS:C w:=by exact cwQ) (hs:gR ops ls i:=by exact ⟨kQ,kQ,kQ⟩):Step (wA P N ops Q C (n+1) ls.toArray l w) (wA P N ops Q C n ls'.toArray ((d,undef)::l) w):=λh=>zZ hi hs.1 hs.2.1 hs.2.2 hS hl.eq (wg hg.1 hg.2 hv hr0.1) hr0.2.1 hr0.2.2 h
theorem XJ {ls ls':List Bool} (q:Nat) (hl:vN q ls i ls':=by exact nfQ) (hi:ops[i]? =some o:=by exact rfl) (hg:gS o ops j b t:=by exact ⟨rfl,rfl⟩) (hv:lk l t=some u:=by exact rfl) (hr0:gY u b true o d N:=by exact ⟨rfl,rfl,rfl⟩) (hy: ∀ w,C w->iP P N l o w v:=by (intro w S;exact y0Q)) (hS:C w:=by exact cwQ) (hs:gR ops ls i:=by exact ⟨kQ,kQ,kQ⟩) (hnl:ls.toArray.getD n true=false:=by exact rfl) (hni:wS ops n i=true:=by kernel_rfl) (hne:Nat.beq n i=false:=by exact rfl):Step (wG P N ops Q C n (m+1) ls.toArray l w) (wG P N ops Q C n m ls'.toArray ((d,v)::l) w):=λh=>l9 hi hs.1 hs.2.1 hs.2.2 hnl hni hne hS hl.eq (wg hg.1 hg.2 hv hr0.1) hr0.2.1 hr0.2.2 hy h
theorem Ih {ls ls':List Bool} (q:Nat) (hl:vN q ls i ls':=by exact nfQ) (hi:ops[i]? =some o:=by exact rfl) (hg:gS o ops j b t:=by exact ⟨rfl,rfl⟩) (hv:lk l t=some u:=by exact rfl) (hr0:gY u b false o d N:=by exact ⟨rfl,rfl,rfl⟩) (hS:C w:=by exact cwQ) (hs:gR ops ls i:=by exact ⟨kQ,kQ,kQ⟩) (hnl:ls.toArray.getD n true=false:=by exact rfl) (hni:wS ops n i=true:=by kernel_rfl) (hne:Nat.beq n i=false:=by exact rfl):Step (wG P N ops Q C n (m+1) ls.toArray l w) (wG P N ops Q C n m ls'.toArray ((d,undef)::l) w):=λh=>ahn hi hs.1 hs.2.1 hs.2.2 hnl hni hne hS hl.eq (wg hg.1 hg.2 hv hr0.1) hr0.2.1 hr0.2.2 h
end
end
section
variable {fn:Func} {R:Ending->World->Prop} {i j k:Nat} {v1 v2 v3:Value} {ty t tt:TypeId} {b m:Nat} {row:Array Value} {ds:TypeDesc}
theorem p0Q (hr:fn.results=([]:List ResultVar).toArray:=by exact rfl):Step (wQ N (bodyPost P fn R) .ret l w) (R (.returned (oq [])) w):=λhR=>bQ (vs:=[]) hr trivial hR
theorem awV (hr:fn.results=([]:List ResultVar).toArray:=by exact rfl):Step (wQ N (bodyPost P fn R) .normal l w) (R (.returned (oq [])) w):=λhR=>FE (vs:=[]) hr trivial hR
theorem p1Q (hr:fn.results=[ResultVar.tmp i].toArray:=by exact rfl) (h1:lk l i=some v1:=by exact rfl):Step (wQ N (bodyPost P fn R) .ret l w) (R (.returned (oq [v1])) w):=λhR=>bQ (vs:=[v1]) hr ⟨h1,trivial⟩ hR
theorem p2Q (hr:fn.results=[ResultVar.tmp i,ResultVar.tmp j].toArray:=by exact rfl) (h1:lk l i=some v1:=by exact rfl) (h2:lk l j=some v2:=by exact rfl):Step (wQ N (bodyPost P fn R) .ret l w) (R (.returned (oq [v1,v2])) w):=λhR=>bQ (vs:=[v1,v2]) hr ⟨h1,h2,trivial⟩ hR
theorem p3Q (hr:fn.results=[ResultVar.tmp i,ResultVar.tmp j,ResultVar.tmp k].toArray:=by exact rfl) (h1:lk l i=some v1:=by exact rfl) (h2:lk l j=some v2/\lk l k=some v3:=by exact ⟨rfl,rfl⟩):Step (wQ N (bodyPost P fn R) .ret l w) (R (.returned (oq [v1,v2,v3])) w):=λhR=>bQ (vs:=[v1,v2,v3]) hr ⟨h1,h2.1,h2.2,trivial⟩ hR
theorem awW (hr:fn.results=[ResultVar.cell i ty].toArray/\lk l i=some (.pointer (some ⟨b,0,none⟩)):=by exact ⟨rfl,rfl⟩) (S:St B w0 w fs:=by assumption) (hf:sF b fs row tt:=by exact fbQ) (hu:P.underlying ty=some ds:=by exact TS) (hd:ds.isRow=true:=by exact rfl) (hz:(P.info? ty).map (·.size)=some m:=by exact iiQ) (hm:row.size=m:=by exact rfl):Step (wQ N (bodyPost P fn R) .ret l w) (R (.returned (oq [.agg row])) w):=λhR=>by
 obtain ⟨q,hq⟩:=hf.at_;exact bQ (vs:=[.agg row]) hr.1 ⟨⟨_,hr.2,dG q S hq hu hd (by rw [hm];exact hz)⟩,trivial⟩ hR
theorem awX (hr:fn.results=[ResultVar.cell i ty,ResultVar.tmp j].toArray:=by exact rfl) (h1:lk l j=some v1:=by exact rfl) (hc:lk l i=some (.pointer (some ⟨b,0,none⟩)):=by exact rfl) (S:St B w0 w fs:=by assumption) (hf:sF b fs row tt:=by exact fbQ) (hu:P.underlying ty=some ds:=by exact TS) (hd:ds.isRow=true:=by exact rfl) (hz:(P.info? ty).map (·.size)=some m:=by exact iiQ) (hm:row.size=m:=by exact rfl):Step (wQ N (bodyPost P fn R) .ret l w) (R (.returned (oq [.agg row,v1])) w):=λhR=>by
 obtain ⟨q,hq⟩:=hf.at_;exact bQ (vs:=[.agg row,v1]) hr ⟨⟨_,hc,dG q S hq hu hd (by rw [hm];exact hz)⟩,h1,trivial⟩ hR
theorem awY (hr:fn.results=[ResultVar.cell i ty,ResultVar.tmp j,ResultVar.tmp k].toArray:=by exact rfl) (h1:lk l j=some v1:=by exact rfl) (h2:lk l k=some v2/\lk l i=some (.pointer (some ⟨b,0,none⟩)):=by exact ⟨rfl,rfl⟩) (S:St B w0 w fs:=by assumption) (hf:sF b fs row tt:=by exact fbQ) (hu:P.underlying ty=some ds:=by exact TS) (hd:ds.isRow=true:=by exact rfl) (hz:(P.info? ty).map (·.size)=some m:=by exact iiQ) (hm:row.size=m:=by exact rfl):Step (wQ N (bodyPost P fn R) .ret l w) (R (.returned (oq [.agg row,v1,v2])) w):=λhR=>by
 obtain ⟨q,hq⟩:=hf.at_;exact bQ (vs:=[.agg row,v1,v2]) hr ⟨⟨_,h2.2,dG q S hq hu hd (by rw [hm];exact hz)⟩,h1,h2.1,trivial⟩ hR
theorem awZ {r:Nat} (hr:fn.results=[ResultVar.cell i ty,ResultVar.tmp j,ResultVar.tmp k,ResultVar.tmp r].toArray:=by exact rfl) (h1:lk l j=some v1:=by exact rfl) (h2:lk l k=some v2/\lk l r=some v3/\lk l i=some (.pointer (some ⟨b,0,none⟩)):=by exact ⟨rfl,rfl,rfl⟩) (S:St B w0 w fs:=by assumption) (hf:sF b fs row tt:=by exact fbQ) (hu:P.underlying ty=some ds:=by exact TS) (hd:ds.isRow=true:=by exact rfl) (hz:(P.info? ty).map (·.size)=some m:=by exact iiQ) (hm:row.size=m:=by exact rfl):Step (wQ N (bodyPost P fn R) .ret l w) (R (.returned (oq [.agg row,v1,v2,v3])) w):=λhR=>by
 obtain ⟨q,hq⟩:=hf.at_;exact bQ (vs:=[.agg row,v1,v2,v3]) hr ⟨⟨_,h2.2.2,dG q S hq hu hd (by rw [hm];exact hz)⟩,h1,h2.1,h2.2.1,trivial⟩ hR
end
theorem gLQ {B:Prop} (h:Step (wL P N ops Q rest l w) B):Step (wL P N ops Q rest l w) B:=h
theorem gQQ {B:Prop} (h:Step (wQ N Q ex l w) B):Step (wQ N Q ex l w) B:=h
theorem gUQ {B:Prop} {C:World->Prop} {Qa:Act->Prop} (h:Step (wU P N ops C Qa rest l) B):Step (wU P N ops C Qa rest l) B:=h
theorem gAQ {B:Prop} {C:World->Prop} {n:Nat} {ls:List Bool} (h:Step (wA P N ops Q C (n+1) ls.toArray l w) B):Step (wA P N ops Q C (n+1) ls.toArray l w) B:=h
theorem gGQ {B:Prop} {C:World->Prop} {n m:Nat} {ls:List Bool} (h:Step (wG P N ops Q C n (m+1) ls.toArray l w) B):Step (wG P N ops Q C n (m+1) ls.toArray l w) B:=h
section
variable {K:Act->World->Prop} {x y:Code} {id:Nat} {os:List Oper} {c:Operand} {C:World->Prop} {Qa:Act->Prop} {j t n:Nat} {u:Value} {b:Bool} {listed:Array Bool} {A B:Prop}
theorem s1Q:Step (wQ N (Exit.then (y.wp P Q) Q) .normal l w) (wC P N y Q l w):=ay
theorem s2Q:Step (wC P N (.seq x y) Q l w) (wC P N x (Exit.then (y.wp P Q) Q) l w):=aA
theorem s3Q:Step (wC P N (.region id os.toArray false) Q l w) (wL P N os.toArray Q os l w):=av
theorem s4Q:Step (wC P N .skip Q l w) (wQ N Q .normal l w):=fC
theorem s5Q:Step (wC P N (.block id x) Q l w) (wC P N x (Exit.inBlock id Q) l w):=gH
theorem s6Q:Step (wQ N (Exit.inBlock id Q) .normal l w) (wQ N Q .normal l w):=dz
theorem s7Q:Step (wC P N .ret Q l w) (wQ N Q .ret l w):=fP
theorem s8Q:Step (wQ N (Exit.then K Q) .ret l w) (wQ N Q .ret l w):=aO
theorem s9Q:Step (wQ N (Exit.inBlock id Q) .ret l w) (wQ N Q .ret l w):=dx
theorem aw0:Step (wC P N (.exit id) Q l w) (wQ N Q (.exit id) l w):=qH
theorem aw1:Step (wQ N (Exit.then K Q) (.exit id) l w) (wQ N Q (.exit id) l w):=dR
theorem aw2:Step (wQ N (Exit.inBlock id Q) (.exit id) l w) (wQ N Q .normal l w):=jN
theorem aw3:Step (wL P N ops Q [] l w) (wQ N Q .normal l w):=aT
theorem aw4 (hc:ev l c=some (.bool true)):Step (wC P N (.cond c x y) Q l w) (wC P N x Q l w):=dO hc
theorem aw5 (hc:ev l c=some (.bool false)):Step (wC P N (.cond c x y) Q l w) (wC P N y Q l w):=bZ hc
theorem aw6 (hg:gS o ops j b t:=by exact ⟨rfl,rfl⟩) (hv:lk l t=some u:=by exact rfl) (hr:gY u b false o d N:=by exact ⟨rfl,rfl,rfl⟩):Step (wL P N ops Q (o::rest) l w) (wL P N ops Q rest ((d,undef)::l) w):=xB (wg hg.1 hg.2 hv hr.1) hr.2.1 hr.2.2
theorem aw7 (hg:gS o ops j b t:=by exact ⟨rfl,rfl⟩) (hv:lk l t=some u:=by exact rfl) (hr:gY u b false o d N:=by exact ⟨rfl,rfl,rfl⟩):Step (wU P N ops C Qa (o::rest) l) (wU P N ops C Qa rest ((d,undef)::l)):=ahl (wg hg.1 hg.2 hv hr.1) hr.2.1 hr.2.2
theorem aw8 (hr:Region.ready .any ops listed=[]):Step (wA P N ops Q C n listed l w) (wQ N Q .normal l w):=nY hr
theorem apZ {G:Prop} (h:G:=by exact cwQ):Step (G/\A) A:=And.intro h
end
inductive Steps:Nat->Prop->Prop->Prop
 | z {A:Prop}:Steps 0 A A
 | s {n:Nat} {A B C:Prop}:Step A B->Steps n B C->Steps (n+1) A C
theorem Steps.go {n:Nat} {A B:Prop} (h:Steps n A B):B->A:=by
 induction h with
 | z=>exact id
 | s h _ ih=>exact λb=>h (ih b)
theorem sQ {A B:Prop} (hs:Step A B:=by first | with_reducible exact aw3 | ((with_reducible apply gLQ);first | exact q1Q | exact q2Q | exact aw6) | with_reducible exact s1Q | with_reducible exact s2Q | with_reducible exact s3Q | with_reducible exact s4Q | with_reducible exact s5Q | with_reducible exact s6Q | with_reducible exact s7Q | with_reducible exact s8Q | with_reducible exact s9Q | with_reducible exact aw0 | with_reducible exact aw1 | with_reducible exact aw2 | ((with_reducible refine aw4 ?_);exact rfl) | ((with_reducible refine aw5 ?_);exact rfl) | ((with_reducible apply gUQ);first | exact q3Q | exact q4Q | exact aw7) | ((with_reducible apply gQQ);first | exact p1Q | exact awX | exact p2Q | exact awW | exact p3Q | exact awY | exact p0Q | exact awV | exact awZ)):Step A B:=hs
theorem zQ {A B:Prop} (h:B) (hs:Step A B:=by exact sQ):A:=hs h
theorem zN {A B:Prop} (n:Nat) (h:B) (hs:Steps n A B:=by repeat' first | exact Steps.z | apply Steps.s | exact sQ):A:=hs.go h
theorem sQa {A B:Prop} (hs:Step A B:=by first | ((with_reducible apply gAQ);first | exact XF 0 | exact XH 0 | exact XI 0 | exact XF 1 | exact XH 1 | exact XI 1 | exact XF 2 | exact XH 2 | exact XI 2 | exact XF 3 | exact XH 3 | exact XI 3 | exact XF 4 | exact XH 4 | exact XI 4 | exact XF 5 | exact XH 5 | exact XI 5 | exact XF 6 | exact XH 6 | exact XI 6 | exact XF 7 | exact XH 7 | exact XI 7 | exact XF 8 | exact XH 8 | exact XI 8 | exact XF 9 | exact XH 9 | exact XI 9) | ((with_reducible apply aw8);kernel_rfl) | exact apZ):Step A B:=hs
theorem dJ {A B:Prop} (h:B) (hs:Step A B:=by exact sQa):A:=hs h
theorem aI {A B:Prop} (n:Nat) (h:B) (hs:Steps n A B:=by repeat' first | exact Steps.z | apply Steps.s | exact sQa):A:=hs.go h
theorem gP {A B:Prop} (h:B) (hs:Step A B:=by first | ((with_reducible apply gGQ);first | exact XG 0 | exact XJ 0 | exact Ih 0 | exact XG 1 | exact XJ 1 | exact Ih 1 | exact XG 2 | exact XJ 2 | exact Ih 2 | exact XG 3 | exact XJ 3 | exact Ih 3 | exact XG 4 | exact XJ 4 | exact Ih 4 | exact XG 5 | exact XJ 5 | exact Ih 5 | exact XG 6 | exact XJ 6 | exact Ih 6 | exact XG 7 | exact XJ 7 | exact Ih 7 | exact XG 8 | exact XJ 8 | exact Ih 8 | exact XG 9 | exact XJ 9 | exact Ih 9) | exact apZ):A:=hs h
section
variable {t:TypeId} {row:Array Value}
def uf (P:Program) (t:TypeId) (row:Array Value):Prop:= ∃ z,(∀ w,(zeroValue t).run P w= .ok z w)/\z.cells=row
theorem fT (S:St B w0 w fs) (hz:uf P t row) (h: ∀ b w',St B w0 w' (.blk b row t::fs)->wL P N ops Q rest ((d,.pointer (some ⟨b,0,none⟩))::l) w') (hw:gM o d N (o.op= .alloc t):=by exact ⟨rfl,rfl,rfl,rfl⟩):wL P N ops Q (o::rest) l w:=by
 obtain ⟨z,h1,h2⟩:=hz;exact iD (V:=λb=> .pointer (some ⟨b,0,none⟩)) S (wn hw.1) hw.2.1 hw.2.2.1 (fD hw.2.2.2 (h1 w) h2) h
theorem lM {C:World->Prop} {n:Nat} {ls ls':List Bool} (j:Nat) (hi':ops[j]? =some o) (S:St B w0 w fs) (hz:uf P t row) (h: ∀ b w',St B w0 w' (.blk b row t::fs)->C w'/\wA P N ops Q C n ls'.toArray ((d,.pointer (some ⟨b,0,none⟩))::l) w') (hl:zm ls j ls':=by exact slQ) (hw:gM o d N (o.op= .alloc t):=by exact ⟨rfl,rfl,rfl,rfl⟩):wK P N ops Q C n j ls.toArray l w:=by
 obtain ⟨z,h1,h2⟩:=hz;exact jV (V:=λb=> .pointer (some ⟨b,0,none⟩)) hi' hl.eq S (wn hw.1) hw.2.1 hw.2.2.1 (fD hw.2.2.2 (h1 w) h2) h
end
theorem zr3:uf Tryz.prog 3 #[iV 0]:=⟨_,Tryz.zeroValue3,rfl⟩
theorem FM:uf Tryz.prog 32 #[iV 0,iV 0]:=⟨_,Tryz.zeroValue32,rfl⟩
theorem afX:uf Tryz.prog 35 #[iV 0,iV 0,iV 0,iV 0,iV 0,iV 0,iV 0,iV 0]:=⟨_,Tryz.zeroValue35,rfl⟩
theorem afY:uf Tryz.prog 40 #[iV 0,.bool false,.bool false,.bool false,.bool false,.bool false,iV 0,iV 0,iV 0,iV 0,iV 0,iV 0,iV 0,iV 0,.slice none 0 0,.slice none 0 0,.slice none 0 0,iV 0]:=⟨_,Tryz.zeroValue40,rfl⟩
theorem fM:uf Tryz.prog 150 #[iV 0,iV 0,iV 0,iV 0,iV 0,.slice none 0 0]:=⟨_,Tryz.zeroValue150,rfl⟩
theorem alh:uf Tryz.prog 221 #[iV 0,.bool false,.bool false,.bool false,.bool false,.bool false,.bool false,.bool false,.bool false]:=⟨_,Tryz.zeroValue221,rfl⟩
theorem YX:uf Tryz.prog 46 #[iV 0,iV 0,iV 0,iV 0,iV 0,iV 0]:=⟨_,Tryz.zeroValue46,rfl⟩
theorem afZ:uf Tryz.prog 53 #[iV 0,iV 0,iV 0,iV 0,iV 0,iV 0,iV 0,iV 0,iV 0,iV 0,iV 0]:=⟨_,Tryz.zeroValue53,rfl⟩
theorem sS:uf Tryz.prog 48 #[iV 0,iV 0,iV 0,iV 0]:=⟨_,Tryz.zeroValue48,rfl⟩
theorem aw9:uf Tryz.prog 123 #[iV 0,iV 0,iV 0,iV 0,iV 0,iV 0,iV 0]:=⟨_,Tryz.zeroValue123,rfl⟩
theorem axa:uf Tryz.prog 273 #[iV 0,iV 0]:=⟨_,Tryz.zeroValue273,rfl⟩
theorem ap0:uf Tryz.prog 276 #[iV 0,iV 0,iV 0,iV 0]:=⟨_,Tryz.zeroValue276,rfl⟩
theorem yI:uf Tryz.prog 106 #[.slice none 0 0,iV 0]:=⟨_,Tryz.zeroValue106,rfl⟩
theorem atK:uf Tryz.prog 110 #[iV 0,.bool false,.slice none 0 0,iV 0,.slice none 0 0,iV 0,iV 0,iV 0,iV 0,iV 0,iV 0,iV 0,iV 0,.bool false,.bool false,.bool false,.bool false,.slice none 0 0,.nilFunc,iV 0]:=⟨_,Tryz.zeroValue110,rfl⟩
theorem ET:uf Tryz.prog 85 #[.pointer none,iV 0]:=⟨_,Tryz.zeroValue85,rfl⟩
theorem abY:uf Tryz.prog 125 #[iV 0,iV 0,iV 0,iV 0,iV 0,iV 0,iV 0,iV 0,iV 0,iV 0,iV 0,iV 0,iV 0,.slice none 0 0,.bool false,iV 0,iV 0,iV 0,iV 0,iV 0,iV 0,iV 0,iV 0]:=⟨_,Tryz.zeroValue125,rfl⟩
theorem wu:uf Tryz.prog 155 #[iV 0,iV 0,iV 0,iV 0,iV 0,iV 0,iV 0,iV 0,iV 0,iV 0]:=⟨_,Tryz.zeroValue155,rfl⟩
theorem atL:uf Tryz.prog 231 #[.nilFunc]:=⟨_,Tryz.zeroValue231,rfl⟩
theorem mh {a b:Nat} (h:a<=b:=by first | assumption | exact Nat.zero_le _ | (dsimp only;omega) | (simp only [List.length_append,List.length_cons,List.length_nil,List.length_drop,List.length_take] at*;omega)):a<=b:=h
inductive Out:List Fact->Nat->Fact->List Fact->Prop
 | z {f:Fact} {fs:List Fact}:Out (f::fs) 0 f fs
 | s {f g:Fact} {fs gs:List Fact} {i:Nat}:Out fs i f gs->Out (g::fs) (i+1) f (g::gs)
theorem Out.eq {fs gs:List Fact} {i:Nat} {f:Fact} (h:Out fs i f gs):fs[i]? =some f/\fs.eraseIdx i=gs:=by
 induction h with
 | z=>exact ⟨rfl,rfl⟩
 | s _ ih=>exact ⟨by simpa using ih.1,by rw [List.eraseIdx_cons_succ,ih.2]⟩
inductive Brs:List Fact->List Nat->List Fact->Prop
 | z {fs:List Fact}:Brs fs [] fs
 | s {fs gs hs:List Fact} {i:Nat} {is:List Nat} {f:Fact}:Out fs i f gs->Brs (f::gs) is hs->Brs fs (i::is) hs
theorem St.dZ {gs:List Fact} (S:St B w0 w fs) (is:List Nat) (h:Brs fs is gs:=by repeat' first | exact Brs.z | exact Out.z | apply Brs.s | apply Out.s):St B w0 w gs:=by
 induction h with
 | z=>exact S
 | s h _ ih=>
  obtain ⟨h1,h2⟩:=h.eq;have:=S.bring _ h1;rw [h2] at this;exact ih this
inductive XK:List Fact->List Nat->List Fact->Prop
 | z {fs:List Fact}:XK fs [] fs
 | s {fs gs hs:List Fact} {i:Nat} {is:List Nat} {f:Fact}:Out fs i f gs->XK gs is hs->XK fs (i::is) hs
theorem dlQ {fs gs:List Fact} {is:List Nat} (h:XK fs is gs:=by repeat' first | exact XK.z | exact Out.z | apply XK.s | apply Out.s):XK fs is gs:=h
theorem St.aU {gs:List Fact} (S:St B w0 w fs) (is:List Nat) (h:XK fs is gs:=by exact dlQ):St B w0 w gs:=by
 induction h with
 | z=>exact S
 | s h _ ih=>
  refine ih ?_;rw [<-h.eq.2];exact S.del _
section
variable {id n m:Nat} {os:List Oper} {gs:List Fact}
theorem aF (n:Nat) (S:St B w0 w.drew gs) (is:List Nat) (h:wA P N os.toArray Q (λw'=>St B w0 w' fs) n (List.replicate n false).toArray l w.drew) (hd:XK gs is fs:=by exact dlQ) (hm:P.follows .mixedOrders=true:=by exact mixed) (hn:os.length=n:=by exact rfl):wC P N (.region id os.toArray true) Q l w:=Du hm hn iQ h
theorem eZ (m n:Nat) (S:St B w0 w.drew gs) (is:List Nat) (h:wG P N os.toArray Q (λw'=>St B w0 w' fs) n m (List.replicate m false).toArray l w.drew) (hd:XK gs is fs:=by exact dlQ) (hm:P.follows .mixedOrders=true:=by exact mixed) (hn:os.length=m:=by exact rfl):wC P N (.region id os.toArray true) Q l w:=xD n hm hn iQ h
end
inductive Cq:List Value->Nat->List Value->List Value->Prop
 | n {l:List Value}:Cq l 0 [] l
 | c {x y:Value} {l cs l':List Value}:Cq l 0 cs l'->Cq (x::l) 0 (y::cs) (y::l')
 | s {x:Value} {i:Nat} {l cs l':List Value}:Cq l i cs l'->Cq (x::l) (i+1) cs (x::l')
theorem Cq.spec {l cs l':List Value} {i:Nat} (h:Cq l i cs l'):i+cs.length<=l.length/\l.take i++cs++l.drop (i+cs.length)=l':=by
 induction h with
 | n=>simp
 | c _ ih=>obtain ⟨h1,h2⟩:=ih;simp only [List.take_zero,List.nil_append,Nat.zero_add,List.length_cons,List.cons_append,List.drop_succ_cons] at h1 h2⊢;exact ⟨by omega,by rw [h2]⟩
 | @s x i l cs l' _ ih=>obtain ⟨h1,h2⟩:=ih;refine ⟨by simp;omega,?_⟩;rw [show i+1+cs.length=(i+cs.length)+1 by omega,List.take_succ_cons,List.drop_succ_cons,List.cons_append,List.cons_append,h2]
theorem Cq.eq {l cs l':List Value} {i:Nat} (h:Cq l i cs l'):cB l.toArray i cs=l'.toArray:=by
 obtain ⟨h1,h2⟩:=h.spec;apply Array.toList_inj.1;rw [iq _ _ _ (by simpa using h1)];simpa using h2
section
variable {b m off:Nat} {rw_ rw':List Value} {cs:Array Value} {t ty:TypeId} {x y:Operand}
theorem Gz (i:Nat) (S:St B w0 w fs) (hz:(P.info? ty).map (·.size)=some m) (h: ∀ w',St B w0 w' fs'->wL P N ops Q rest l w') (hw:o.guard=none/\o.dst=none/\o.op= .store ty x y/\ev l x=some (.pointer (some ⟨b,off,none⟩))/\ev l y=some v:=by exact ⟨rfl,rfl,rfl,rfl,rfl⟩) (hi:fs[i]? =some (.blk b rw_.toArray t):=by exact rfl) (hv:v.cells=cs:=by exact rfl) (hm:cs.size=m:=by exact rfl) (h1: ∀ u∈cs.toList,u.oneCell'=true:=by exact aM rfl) (hr:Nat.ble (off+m) rw_.toArray.size=true:=by exact rfl) (hs:Cq rw_ off cs.toList rw':=by repeat' first | exact Cq.n | apply Cq.c | apply Cq.s) (hf:iR (.blk b rw'.toArray t) fs i fs':=by repeat' first | exact iR.z | apply iR.s):wL P N ops Q (o::rest) l w:=fq i S (wn hw.1) hw.2.1 hw.2.2.1 hw.2.2.2.1 hw.2.2.2.2 hi hv hz hm h1 (Nat.le_of_ble_eq_true hr) hs.eq hf.eq h
end
section
variable {C:World->Prop} {n:Nat} {ls ls':List Bool} {row:Array Value} {t tt:TypeId} {x:Operand}
theorem iT (S:St B w0 w fs) (h: ∀ b w',St B w0 w' (.blk b row t::fs)->wL P N ops Q rest ((d,.pointer (some ⟨b,0,none⟩))::l) w') (hw:gM o d N (o.op= .box t x/\ev l x=some (.agg row)):=by exact ⟨rfl,rfl,rfl,rfl,rfl⟩):wL P N ops Q (o::rest) l w:=iD (V:=λb=> .pointer (some ⟨b,0,none⟩)) S (wn hw.1) hw.2.1 hw.2.2.1 (Uw hw.2.2.2.1 hw.2.2.2.2 rfl) h
theorem TU (S:St B w0 w fs) (h: ∀ b w',St B w0 w' (.blk b #[v] t::fs)->wL P N ops Q rest ((d,.pointer (some ⟨b,0,none⟩))::l) w') (hw:gM o d N (o.op= .box t x/\ev l x=some v):=by exact ⟨rfl,rfl,rfl,rfl,rfl⟩) (hv:v.cells= #[v]:=by exact rfl):wL P N ops Q (o::rest) l w:=iD (V:=λb=> .pointer (some ⟨b,0,none⟩)) S (wn hw.1) hw.2.1 hw.2.2.1 (Uw hw.2.2.2.1 hw.2.2.2.2 hv) h
theorem YZ (S:St B w0 w fs) (h: ∀ b w',St B w0 w' (.blk b row tt::fs)->wL P N ops Q rest ((d,.slice (some ⟨b,0,none⟩) 1 1)::l) w') (hw:gM o d N (o.op= .buildSlice t 1 [(0,x)].toArray/\ev l x=some (.agg row)):=by exact ⟨rfl,rfl,rfl,rfl,rfl⟩) (hu:P.underlying t=some (.slice tt):=by exact TS) (hr:(Instr.buildSlice t 1 [(0,Value.agg row)].toArray).run P w= .ok (.slice (some ⟨w.heap.size,0,none⟩) 1 1) (w.alloc (.cells row tt)):=by kernel_rfl):wL P N ops Q (o::rest) l w:=iD (V:=λb=> .slice (some ⟨b,0,none⟩) 1 1) S (wn hw.1) hw.2.1 hw.2.2.1 (aS (vs:=[(0,.agg row)]) hw.2.2.2.1 ⟨rfl,hw.2.2.2.2,trivial⟩ hr) h
theorem bsI (S:St B w0 w fs) (h: ∀ b w',St B w0 w' (.blk b #[v] tt::fs)->wL P N ops Q rest ((d,.slice (some ⟨b,0,none⟩) 1 1)::l) w') (hw:gM o d N (o.op= .buildSlice t 1 [(0,x)].toArray/\ev l x=some v):=by exact ⟨rfl,rfl,rfl,rfl,rfl⟩) (hu:P.underlying t=some (.slice tt):=by exact TS) (hr:(Instr.buildSlice t 1 [(0,v)].toArray).run P w= .ok (.slice (some ⟨w.heap.size,0,none⟩) 1 1) (w.alloc (.cells #[v] tt)):=by kernel_rfl):wL P N ops Q (o::rest) l w:=iD (V:=λb=> .slice (some ⟨b,0,none⟩) 1 1) S (wn hw.1) hw.2.1 hw.2.2.1 (aS (vs:=[(0,v)]) hw.2.2.2.1 ⟨rfl,hw.2.2.2.2,trivial⟩ hr) h
theorem FN (j:Nat) (hi':ops[j]? =some o) (S:St B w0 w fs) (h: ∀ b w',St B w0 w' (.blk b row tt::fs)->C w'/\wA P N ops Q C n ls'.toArray ((d,.slice (some ⟨b,0,none⟩) 1 1)::l) w') (hl:zm ls j ls':=by exact slQ) (hw:gM o d N (o.op= .buildSlice t 1 [(0,x)].toArray/\ev l x=some (.agg row)):=by exact ⟨rfl,rfl,rfl,rfl,rfl⟩) (hu:P.underlying t=some (.slice tt):=by exact TS) (hr:(Instr.buildSlice t 1 [(0,Value.agg row)].toArray).run P w= .ok (.slice (some ⟨w.heap.size,0,none⟩) 1 1) (w.alloc (.cells row tt)):=by kernel_rfl):wK P N ops Q C n j ls.toArray l w:=jV (V:=λb=> .slice (some ⟨b,0,none⟩) 1 1) hi' hl.eq S (wn hw.1) hw.2.1 hw.2.2.1 (aS (vs:=[(0,.agg row)]) hw.2.2.2.1 ⟨rfl,hw.2.2.2.2,trivial⟩ hr) h
end
inductive wW (l:Slots):List Operand->List Value->Prop
 | z:wW l [] []
 | s {x:Operand} {xs:List Operand} {v:Value} {vs:List Value}:ev l x=some v->wW l xs vs->wW l (x::xs) (v::vs)
theorem wW.evs {xs:List Operand} {vs:List Value} (h:wW l xs vs):Mr l xs vs:=by
 induction h with
 | z=>exact trivial
 | s h _ ih=>exact ⟨h,ih⟩
section
variable {f:FuncId} {first cap us vs:List Value} {x:Operand} {xs ys:List Operand} {ts:Array TypeId} {R:Ending->World->Prop}
theorem vO (I5: ∀ args w,(callFunc f args).run P w= .ok (.enter f args) w) (hc:Calls P f us.toArray w R) (h: ∀ e w',R e w'-> ∃ v,e= .returned v/\wL P N ops Q rest ((d,v)::l) w') (hw:gM o d N (o.op= .call { callee:= .value x,args:=xs.toArray,argTypes:=ts }):=by exact ⟨rfl,rfl,rfl,rfl⟩) (hv:ev l x=some (.func (.func f) first.toArray cap.toArray):=by exact rfl) (hx:wW l xs vs:=by repeat' first | exact wW.z | apply wW.s rfl) (hu:first++vs++cap=us:=by exact rfl):wL P N ops Q (o::rest) l w:=jy (wn hw.1) hw.2.1 hw.2.2.1 (Xw hw.2.2.2 hv I5 hx.evs hu) hc h
theorem mP {C:World->Prop} {n:Nat} {ls ls':List Bool} (j:Nat) (hi':ops[j]? =some o) (I5: ∀ args w,(callFunc f args).run P w= .ok (.enter f args) w) (hc:Calls P f us.toArray w R) (h: ∀ e w',R e w'-> ∃ v,e= .returned v/\C w'/\wA P N ops Q C n ls'.toArray ((d,v)::l) w') (hl:zm ls j ls':=by exact slQ) (hw:gM o d N (o.op= .call { callee:= .value x,args:=xs.toArray,argTypes:=ts }):=by exact ⟨rfl,rfl,rfl,rfl⟩) (hv:ev l x=some (.func (.func f) first.toArray cap.toArray):=by exact rfl) (hx:wW l xs vs:=by repeat' first | exact wW.z | apply wW.s rfl) (hu:first++vs++cap=us:=by exact rfl):wK P N ops Q C n j ls.toArray l w:=uG hi' hl.eq (wn hw.1) hw.2.1 hw.2.2.1 (Xw hw.2.2.2 hv I5 hx.evs hu) hc h
theorem j5 {C:World->Prop} {n:Nat} {ls ls':List Bool} (j:Nat) (hi':ops[j]? =some o) (I5: ∀ args w,(callFunc f args).run P w= .ok (.enter f args) w) (hc:Calls P f vs.toArray w R) (h: ∀ e w',R e w'-> ∃ v,e= .returned v/\C w'/\wA P N ops Q C n ls'.toArray ((d,v)::l) w') (hl:zm ls j ls':=by exact slQ) (hw:gM o d N (o.op= .call { callee:= .value (.func f),args:=xs.toArray,argTypes:=ts }):=by exact ⟨rfl,rfl,rfl,rfl⟩) (hx:Mr l xs vs:=by repeat' first | exact trivial | refine ⟨rfl,?_⟩):wK P N ops Q C n j ls.toArray l w:=uG hi' hl.eq (wn hw.1) hw.2.1 hw.2.2.1 (eF hw.2.2.2 I5 hx) hc h
theorem Jb {g:Fn} (ho:o.op= .makeFunc g xs.toArray ys.toArray:=by exact rfl) (hx:wW l xs vs:=by repeat' first | exact wW.z | apply wW.s rfl) (hy:wW l ys us:=by repeat' first | exact wW.z | apply wW.s rfl):iP P N l o w (.func g vs.toArray us.toArray):=Dc ho hx.evs hy.evs
end
inductive MP (l:Slots):List (Nat×Operand)->List (Nat×Value)->Prop
 | z:MP l [] []
 | s {i:Nat} {x:Operand} {xs:List (Nat×Operand)} {v:Value} {vs:List (Nat×Value)}:ev l x=some v->MP l xs vs->MP l ((i,x)::xs) ((i,v)::vs)
theorem MP.evp {xs:List (Nat×Operand)} {vs:List (Nat×Value)} (h:MP l xs vs):EvP l xs vs:=by
 induction h with
 | z=>exact trivial
 | s h _ ih=>exact ⟨rfl,h,ih⟩
theorem gB {t:TypeId} {xs:List (Nat×Operand)} {vs:List (Nat×Value)} (ho:o.op= .build t xs.toArray:=by exact rfl) (hx:MP l xs vs:=by repeat' first | exact MP.z | apply MP.s rfl) (hr:(Instr.build t vs.toArray).run P w= .ok v w:=by kernel_rfl):iP P N l o w v:=xC ho hx.evp hr
section
variable {kd:IntKind} {xo yo:Operand} {x y z:Int} {t tt:TypeId}
theorem j6 (ho:o.op= .binOp .add t xo yo tt/\ev l xo=some (.int .i64 x)/\ev l yo=some (.int .i64 y):=by exact ⟨rfl,rfl,rfl⟩) (hz:x+y=z:=by omega) (h: -9223372036854775808<=z/\z<=9223372036854775807:=by omega):iP P N l o w (.int .i64 z):=aC ho.1 ho.2.1 ho.2.2 (qY hz h)
theorem ysu (ho:o.op= .binOp .sub t xo yo tt/\ev l xo=some (.int .i64 x)/\ev l yo=some (.int .i64 y):=by exact ⟨rfl,rfl,rfl⟩) (hz:x-y=z:=by omega) (h: -9223372036854775808<=z/\z<=9223372036854775807:=by omega):iP P N l o w (.int .i64 z):=aC ho.1 ho.2.1 ho.2.2 (as6 hz h)
theorem kY {p e:TypeId} {b off n c s:Nat} {i:Int} {xo yo:Operand} (k:Nat) (ho:o.op= .indexAddr p xo yo/\ev l xo=some (.slice (some ⟨b,off,none⟩) n c)/\ev l yo=some (.int kd i):=by exact ⟨rfl,rfl,rfl⟩) (hu:P.underlying p=some (.slice e):=by exact TS) (hz:(P.info? e).map (·.size)=some s:=by exact iiQ) (hik:i=k:=by first | rfl | omega | simp) (hk:k<n:=by first | omega | simp | decide):iP P N l o w (.pointer (some ⟨b,off+k*s,none⟩)):=aZ ho.1 ho.2.1 ho.2.2 (lJ k hu hz hik hk)
end
section
variable {b m off:Nat} {row row' cs:Array Value} {t ty:TypeId} {x y:Operand} {C:World->Prop} {n:Nat} {ls ls':List Bool}
theorem jE (i:Nat) (S:St B w0 w fs) (hz:(P.info? ty).map (·.size)=some m) (h: ∀ w',St B w0 w' fs'->wL P N ops Q rest l w') (hw:o.guard=none/\o.dst=none/\o.op= .store ty x y/\ev l x=some (.pointer (some ⟨b,off,none⟩))/\ev l y=some v:=by exact ⟨rfl,rfl,rfl,rfl,rfl⟩) (hi:fs[i]? =some (.blk b row t):=by exact rfl) (hv:v.cells=cs:=by exact rfl) (hm:cs.size=m:=by exact rfl) (h1: ∀ u∈cs.toList,u.oneCell'=true:=by exact aM rfl) (hr:Nat.ble (off+m) row.size=true:=by exact rfl) (hs:cB row off cs.toList=row':=by exact rfl) (hf:iR (.blk b row' t) fs i fs':=by repeat' first | exact iR.z | apply iR.s):wL P N ops Q (o::rest) l w:=fq i S (wn hw.1) hw.2.1 hw.2.2.1 hw.2.2.2.1 hw.2.2.2.2 hi hv hz hm h1 (Nat.le_of_ble_eq_true hr) hs hf.eq h
theorem stA (i:Nat) (S:St B w0 w fs) (hz:(P.info? ty).map (·.size)=some m) (h: ∀ w',St B w0 w' fs'->wL P N ops Q rest l w') (hw:o.guard=none/\o.dst=none/\o.op= .store ty x y/\ev l x=some (.pointer (some ⟨b,0,none⟩))/\ev l y=some v:=by exact ⟨rfl,rfl,rfl,rfl,rfl⟩) (hi:fs[i]? =some (.blk b row t):=by exact rfl) (hv:v.cells=cs:=by exact rfl) (hm:cs.size=m:=by exact rfl) (h1: ∀ u∈cs.toList,u.oneCell'=true:=by exact aM rfl) (hs:row.size=cs.size:=by exact rfl) (hr:Nat.ble (0+m) row.size=true:=by exact rfl) (hf:iR (.blk b cs t) fs i fs':=by repeat' first | exact iR.z | apply iR.s):wL P N ops Q (o::rest) l w:=fq i S (wn hw.1) hw.2.1 hw.2.2.1 hw.2.2.2.1 hw.2.2.2.2 hi hv hz hm h1 (Nat.le_of_ble_eq_true hr) (lU hs) hf.eq h
theorem snz (j:Nat) (hi':ops[j]? =some o) (i:Nat) (S:St B w0 w fs) (hz:(P.info? ty).map (·.size)=some m) (h: ∀ w',St B w0 w' fs'->C w'/\wA P N ops Q C n ls'.toArray l w') (hl:zm ls j ls':=by exact slQ) (hw:o.guard=none/\o.dst=none/\o.op= .store ty x y/\ev l x=some (.pointer (some ⟨b,off,none⟩))/\ev l y=some v:=by exact ⟨rfl,rfl,rfl,rfl,rfl⟩) (hi:fs[i]? =some (.blk b row t):=by exact rfl) (hv:v.cells=cs:=by exact rfl) (hm:cs.size=m:=by exact rfl) (h1: ∀ u∈cs.toList,u.oneCell'=true:=by exact aM rfl) (hr:Nat.ble (off+m) row.size=true:=by exact rfl) (hs:cB row off cs.toList=row':=by exact rfl) (hf:iR (.blk b row' t) fs i fs':=by repeat' first | exact iR.z | apply iR.s):wK P N ops Q C n j ls.toArray l w:=sD hi' hl.eq i S (wn hw.1) hw.2.1 hw.2.2.1 hw.2.2.2.1 hw.2.2.2.2 hi hv hz hm h1 (Nat.le_of_ble_eq_true hr) hs hf.eq h
theorem Y0 (j:Nat) (hi':ops[j]? =some o) (i:Nat) (S:St B w0 w fs) (hz:(P.info? ty).map (·.size)=some m) (h: ∀ w',St B w0 w' fs'->C w'/\wA P N ops Q C n ls'.toArray l w') (hl:zm ls j ls':=by exact slQ) (hw:o.guard=none/\o.dst=none/\o.op= .store ty x y/\ev l x=some (.pointer (some ⟨b,0,none⟩))/\ev l y=some v:=by exact ⟨rfl,rfl,rfl,rfl,rfl⟩) (hi:fs[i]? =some (.blk b row t):=by exact rfl) (hv:v.cells=cs:=by exact rfl) (hm:cs.size=m:=by exact rfl) (h1: ∀ u∈cs.toList,u.oneCell'=true:=by exact aM rfl) (hs:row.size=cs.size:=by exact rfl) (hr:Nat.ble (0+m) row.size=true:=by exact rfl) (hf:iR (.blk b cs t) fs i fs':=by repeat' first | exact iR.z | apply iR.s):wK P N ops Q C n j ls.toArray l w:=sD hi' hl.eq i S (wn hw.1) hw.2.1 hw.2.2.1 hw.2.2.2.1 hw.2.2.2.2 hi hv hz hm h1 (Nat.le_of_ble_eq_true hr) (lU hs) hf.eq h
end
end
def rG (w:World) (r:List UInt8×Int×Int) (e:Ending) (w':World):Prop:=
 ∃ A c,e= .returned (.tuple #[.agg #[.slice A r.1.length c,.int .i64 r.2.1],.int .i64 r.2.2])/\Below w.heap.size w w'/\Rd w' w'.heap.size 1 A r.1.length (byteCells r.1)/\ ∀ a,A=some a->w.heap.size<=a.block/\a.block<w'.heap.size
theorem MQ {w:World} {base:Nat} {e:TypeId} {size:Nat} {A:Option Addr} {n c:Nat} {xs:List Value} (h:w.ownsRow base e size (.slice A n c) n xs): ∀ a,A=some a->base<=a.block/\a.block<w.heap.size:=λa ha=>⟨h.yR a.block (by rw [ha];rfl),by
 obtain ⟨_,⟨h2,_⟩ | ⟨g,cap,cur,hv,_,hh,_⟩⟩:=h
 ·cases h2;cases ha
 cases hv;cases ha;exact (Array.getElem?_eq_some_iff.1 hh).1⟩
def UA (l:List UInt8) (s:Int):List UInt8×Int×Int:=if dn l s=true then (l,l.length,0) else ([],0,6)
theorem zG (l:List UInt8) (s:Int):(Hq l s=(l,s,true)/\dn l s=true)\/(Hq l s=([],0,false)/\dn l s=false):=by
 unfold Hq
 cases h:dn l s<;>simp
theorem oI {l:List UInt8} {s:Int} (h:dn l s=true):l.length<=100000/\0<=s/\s<=l.length:=by
 simp [dn] at h;omega
theorem oJ (A:Option Addr) (n c:Nat) (l:List UInt8) (s:Int) (w:World) (h:Rd w w.heap.size 1 A n (byteCells l)):
  Calls Tryz.prog 67 #[.agg #[.slice A n c,.int .i64 s]] w (rG w (UA l s)):=by
 have H:=Lib.hid h;clear h;have HO:=Lib.hid (lW A n c l s)
 rcases zG l s with ⟨ho,hm⟩ | ⟨ho,hm⟩
 ·rw [show UA l s=(l,(l.length:Int),0) from if_pos hm];rw [ho] at HO;obtain ⟨hm1,_,_⟩:=oI hm;clear ho hm
  go_enter Tryz.func67,Tryz.ntmps67
  go_wp2_with fail
  refine (HO.out _ (by exact H.out.on gQ)).mono ?_;rintro e w1 ⟨A1,c1,rfl,hb1,hown1⟩;have hz0:w.heap.size<w1.heap.size:=by have:=hb1.size;simp at this;omega
  have hz1:w.heap.size+1<w1.heap.size:=by have:=hb1.size;simp at this;omega
  obtain ⟨hc1,hf1⟩:=Cj hb1;have HB:Hid (Below w.heap.size w w1):=Lib.hid (Below.trans gQ (hb1.mono jQ));have HR:=Lib.hid (World.ownsRow.lower (base':=w.heap.size+1+1) hown1 iQ);clear hb1 hown1
  go_wp2
  refine bodyPost_ret (v:= .tuple #[.agg #[.slice A1 l.length c1,.int .i64 l.length],.int .i64 0]) (by simp [results,Tryz.results67,go_sem,hc1,hz1]<;>omega) rfl ?_;have hB:=HB.out;have hz:=hB.size;exact ⟨A1,c1,rfl,by go_grown,Rd.tF ((ownsRow_setCell_below (ownsRow_setCell_below HR.out iQ _) iQ _).alloc _),λa ha=>by have:=MQ HR.out a ha;refine ⟨by omega,?_⟩;simp;omega⟩
 rw [show UA l s=([],0,6) from if_neg (by simp [hm])];rw [ho] at HO;clear ho hm
 go_enter Tryz.func67,Tryz.ntmps67
 go_wp2_with fail
 refine (HO.out _ (by exact H.out.on gQ)).mono ?_;rintro e w1 ⟨A1,c1,rfl,hb1,hown1⟩;have hz0:w.heap.size<w1.heap.size:=by have:=hb1.size;simp at this;omega
 have hz1:w.heap.size+1<w1.heap.size:=by have:=hb1.size;simp at this;omega
 obtain ⟨hc1,hf1⟩:=Cj hb1;have HB:Hid (Below w.heap.size w w1):=Lib.hid (Below.trans gQ (hb1.mono jQ));clear hb1 hown1
 go_wp2
 refine bodyPost_ret (v:= .tuple #[.agg #[.slice none 0 0,.int .i64 0],.int .i64 6]) (by simp [results,Tryz.results67,go_sem,hc1,hz1]<;>omega) rfl ?_;have hB:=HB.out;have hz:=hB.size;exact ⟨none,0,rfl,by go_grown,Rd.none_,λa ha=>by cases ha⟩
def oN (l:List UInt8) (s keep:Int):List UInt8×Int×Int:=
 if dn l s=true then if keep<0 then ([],0,2) else if (l.length:Int)-s<keep then (l,l.length,0) else (l.take (s+keep).toNat,s+keep,0) else ([],0,6)
theorem Rd.take {w:World} {B size n:Nat} {A:Option Addr} {xs:List Value} (h:Rd w B size A n xs) {m:Nat} (hm:m<=n):Rd w B size A m (xs.take (m*size)):=by
 refine ⟨?_,λh0=>?_⟩
 ·rw [List.length_take,h.1];exact Nat.min_eq_left (Nat.mul_le_mul_right _ hm)
 obtain ⟨b,off,e,hb,hc⟩:=h.2 oQ;refine ⟨b,off,e,hb,λj u hu=>hc j u ?_⟩;rw [List.getElem?_take] at hu
 split at hu
 ·exact hu
 cases hu
theorem KX (l:List UInt8) (m:Nat):(byteCells l).take m=byteCells (l.take m):=by simp [byteCells,List.map_take]
theorem Y1 (A:Option Addr) (n c:Nat) (l:List UInt8) (s keep:Int) (w:World) (h:Rd w w.heap.size 1 A n (byteCells l)) (hm:dn l s=true) (h0:0<=keep) (hk:(l.length:Int)-s<keep):
  Calls Tryz.prog 46 #[.agg #[.slice A n c,.int .i64 s],.int .i64 keep] w (rG w (l,l.length,0)):=by
 have H:=Lib.hid h;clear h;have HO:=Lib.hid (lW A n c l s);obtain ⟨hm1,hs0,hs1⟩:=oI hm;rw [Bd hs0 hs1 hm1] at HO;obtain ⟨s',rfl⟩:=Int.eq_ofNat_of_zero_le hs0;clear hm
 go_enter Tryz.func46,Tryz.ntmps46
 go_wp2_with fail
 refine (HO.out _ (by exact H.out.on gQ)).mono ?_;rintro e w1 ⟨A1,c1,rfl,hb1,hown1⟩;have hz0:w.heap.size<w1.heap.size:=by have:=hb1.size;simp at this;omega
 have hz1:w.heap.size+1<w1.heap.size:=by have:=hb1.size;simp at this;omega
 obtain ⟨hc1,hf1⟩:=Cj hb1;have HB:Hid (Below w.heap.size w w1):=Lib.hid (Below.trans gQ (hb1.mono jQ));have hcap:=Ig hown1;have HR:=Lib.hid (World.ownsRow.lower (base':=w.heap.size+1+1) hown1 iQ);clear hb1 hown1;have e1:(s':Int)+((l.length:Int)-s')=l.length:=oQ
 go_wp2
 refine bodyPost_ret (v:= .tuple #[.agg #[.slice A1 l.length l.length,.int .i64 l.length],.int .i64 0]) (by simp [results,Tryz.results46,go_sem,hc1,hz1]<;>omega) rfl ?_;have hB:=HB.out;have hz:=hB.size;exact ⟨A1,l.length,rfl,by go_grown,Rd.J9 ((ownsRow_setCell_below (ownsRow_setCell_below HR.out iQ _) iQ _).alloc _),λa ha=>by have:=MQ HR.out a ha;refine ⟨by omega,?_⟩;simp;omega⟩
theorem VZ (A:Option Addr) (n c:Nat) (l:List UInt8) (s keep:Int) (w:World) (h:Rd w w.heap.size 1 A n (byteCells l)) (hm:dn l s=true) (h0:0<=keep) (hk: ¬ (l.length:Int)-s<keep):
  Calls Tryz.prog 46 #[.agg #[.slice A n c,.int .i64 s],.int .i64 keep] w (rG w (l.take (s+keep).toNat,s+keep,0)):=by
 have H:=Lib.hid h;clear h;have HO:=Lib.hid (lW A n c l s);obtain ⟨hm1,hs0,hs1⟩:=oI hm;rw [Bd hs0 hs1 hm1] at HO;obtain ⟨s',rfl⟩:=Int.eq_ofNat_of_zero_le hs0;obtain ⟨k',rfl⟩:=Int.eq_ofNat_of_zero_le h0;have hsk:s'+k'<=l.length:=oQ;have hk':(s':Int)+k'<=l.length:=oQ;clear hm;rw [show ((s':Int)+(k':Int)).toNat=s'+k' by omega]
 go_enter Tryz.func46,Tryz.ntmps46
 go_wp2_with fail
 refine (HO.out _ (by exact H.out.on gQ)).mono ?_;rintro e w1 ⟨A1,c1,rfl,hb1,hown1⟩;have hz0:w.heap.size<w1.heap.size:=by have:=hb1.size;simp at this;omega
 have hz1:w.heap.size+1<w1.heap.size:=by have:=hb1.size;simp at this;omega
 obtain ⟨hc1,hf1⟩:=Cj hb1;have HB:Hid (Below w.heap.size w w1):=Lib.hid (Below.trans gQ (hb1.mono jQ));have hcap:=Ig hown1;have HR:=Lib.hid (World.ownsRow.lower (base':=w.heap.size+1+1) hown1 iQ);clear hb1 hown1
 go_wp2
 refine bodyPost_ret (v:= .tuple #[.agg #[.slice A1 (s'+k') (s'+k'),.int .i64 (s'+k')],.int .i64 0]) (by simp [results,Tryz.results46,go_sem,hc1,hz1]<;>omega) rfl ?_;have hB:=HB.out;have hz:=hB.size;have hl:(l.take (s'+k')).length=s'+k':=by rw [List.length_take];omega
 have hr:=(Rd.J9 ((ownsRow_setCell_below (ownsRow_setCell_below HR.out (a:=⟨w.heap.size+1,0,none⟩) iQ (.slice A1 (s'+k') (s'+k'))) (a:=⟨w.heap.size+1,1,none⟩) iQ (.int .i64 (s'+k'))).alloc (.cells #[.slice A1 l.length c1,.int .i64 s'] 106))).take hsk;rw [Nat.mul_one,KX] at hr
 try simp only [show (s':Int)+min (k':Int) ((l.length:Int)-s')=(s':Int)+k' by omega,show ((s':Int)+(k':Int)).toNat=s'+k' by omega]
 exact ⟨A1,s'+k',by simp only [hl],by go_grown,by simpa only [hl] using hr,λa ha=>by have:=MQ HR.out a ha;refine ⟨by omega,?_⟩;simp;omega⟩
theorem Y2 (A:Option Addr) (n c:Nat) (l:List UInt8) (s keep:Int) (w:World) (h:Rd w w.heap.size 1 A n (byteCells l)) (hm:dn l s=true) (h0:keep<0):
  Calls Tryz.prog 46 #[.agg #[.slice A n c,.int .i64 s],.int .i64 keep] w (rG w ([],0,2)):=by
 have H:=Lib.hid h;clear h;have HO:=Lib.hid (lW A n c l s);obtain ⟨hm1,hs0,hs1⟩:=oI hm;rw [Bd hs0 hs1 hm1] at HO;clear hm
 go_enter Tryz.func46,Tryz.ntmps46
 go_wp2_with fail
 refine (HO.out _ (by exact H.out.on gQ)).mono ?_;rintro e w1 ⟨A1,c1,rfl,hb1,hown1⟩;have hz0:w.heap.size<w1.heap.size:=by have:=hb1.size;simp at this;omega
 have hz1:w.heap.size+1<w1.heap.size:=by have:=hb1.size;simp at this;omega
 obtain ⟨hc1,hf1⟩:=Cj hb1;have HB:Hid (Below w.heap.size w w1):=Lib.hid (Below.trans gQ (hb1.mono jQ));have hcap:=Ig hown1;have HR:=Lib.hid (World.ownsRow.lower (base':=w.heap.size+1+1) hown1 iQ);clear hb1 hown1
 go_wp2
 refine bodyPost_ret (v:= .tuple #[.agg #[.slice none 0 0,.int .i64 0],.int .i64 2]) (by simp [results,Tryz.results46,go_sem,hc1,hz1]<;>omega) rfl ?_;have hB:=HB.out;have hz:=hB.size;exact ⟨none,0,rfl,by go_grown,Rd.none_,λa ha=>by cases ha⟩
theorem aeb (A:Option Addr) (n c:Nat) (l:List UInt8) (s keep:Int) (w:World) (h:Rd w w.heap.size 1 A n (byteCells l)) (hm:dn l s=false):
  Calls Tryz.prog 46 #[.agg #[.slice A n c,.int .i64 s],.int .i64 keep] w (rG w ([],0,6)):=by
 have H:=Lib.hid h;clear h;have HO:=Lib.hid (lW A n c l s)
 rcases zG l s with ⟨_,hm'⟩ | ⟨ho,_⟩
 ·rw [hm] at hm';cases hm'
 rw [ho] at HO;clear ho hm
 go_enter Tryz.func46,Tryz.ntmps46
 go_wp2_with fail
 refine (HO.out _ (by exact H.out.on gQ)).mono ?_;rintro e w1 ⟨A1,c1,rfl,hb1,hown1⟩;have hz0:w.heap.size<w1.heap.size:=by have:=hb1.size;simp at this;omega
 have hz1:w.heap.size+1<w1.heap.size:=by have:=hb1.size;simp at this;omega
 obtain ⟨hc1,hf1⟩:=Cj hb1;have HB:Hid (Below w.heap.size w w1):=Lib.hid (Below.trans gQ (hb1.mono jQ));have hcap:=Ig hown1;have HR:=Lib.hid (World.ownsRow.lower (base':=w.heap.size+1+1) hown1 iQ);clear hb1 hown1
 go_wp2
 refine bodyPost_ret (v:= .tuple #[.agg #[.slice none 0 0,.int .i64 0],.int .i64 6]) (by simp [results,Tryz.results46,go_sem,hc1,hz1]<;>omega) rfl ?_;have hB:=HB.out;have hz:=hB.size;exact ⟨none,0,rfl,by go_grown,Rd.none_,λa ha=>by cases ha⟩
theorem Sj (A:Option Addr) (n c:Nat) (l:List UInt8) (s keep:Int) (w:World) (h:Rd w w.heap.size 1 A n (byteCells l)):
  Calls Tryz.prog 46 #[.agg #[.slice A n c,.int .i64 s],.int .i64 keep] w (rG w (oN l s keep)):=by
 unfold oN
 cases hm:dn l s
 ·rw [if_neg iQ];exact aeb A n c l s keep w h hm
 rw [if_pos rfl];by_cases h0:keep<0
 ·rw [if_pos h0];exact Y2 A n c l s keep w h hm h0
 rw [if_neg h0];by_cases hk:(l.length:Int)-s<keep
 ·rw [if_pos hk];exact Y1 A n c l s keep w h hm oQ hk
 rw [if_neg hk];exact VZ A n c l s keep w h hm oQ hk
theorem V3 (d:Dir) (q epoch node:Int) (w:World) (hn:Nw w):Calls Tryz.prog 71 #[d.val,.int .i64 q,.int .i64 epoch,.int .i64 node] w (XD w (Lh d q epoch node)):=by
 have HN:=Lib.hid hn;clear hn;have HC:=Lib.hid (λw h=>nu d q w h);have HR:Hid (Lh d q epoch node=if (bO d q).2≠0 then (kH,(bO d q).2) else if node<0\/4<node then (kH,2) else if (bO d q).1.epoch≠epoch then (kH,15)
 else if (bO d q).1.node=node then (kH,8) else if epoch=1048576 then (kH,14) else (d.set q.toNat ⟨node,epoch+1⟩,0)):=Lib.hid rfl
 have HZ:=Lib.hid (Gy (d:=d) (q:=q));generalize Lh d q epoch node=r at*;generalize bO d q=a at*;obtain ⟨⟨pn,pe⟩,z⟩:=a;obtain ⟨⟨n0,e0⟩,⟨n1,e1⟩,⟨n2,e2⟩,⟨n3,e3⟩⟩:=d;unfold Dir.val at*
 try simp only at HC⊢
 go_enter Tryz.func71,Tryz.ntmps71
 go_wp2_with fail
 refine (HC.out _ (HN.out.on gQ)).mono ?_;rintro e w1 ⟨rfl,hb1⟩;have B0:=((fK.new w _ _).alloc _).below hb1 jQ;have B1:=(fK.new1 w _ _ _).below hb1 iQ;have hz0:w.heap.size<w1.heap.size:=B0.lt;have hz1:w.heap.size+1<w1.heap.size:=B1.lt;have HB1:Hid (Below w.heap.size w w1):=Lib.hid (Below.trans gQ (hb1.mono jQ))
 go_upto_region 2 with fail
 have C0:=B0.alloc (.cells #[.int .i64 pn,.int .i64 pe] 32);have C1:=B1.alloc (.cells #[.int .i64 pn,.int .i64 pe] 32);have C2:=fK.new w1 #[.int .i64 pn,.int .i64 pe] 32;have HB:Hid (Below w.heap.size w (w1.alloc (.cells #[.int .i64 pn,.int .i64 pe] 32))):=Lib.hid (HB1.out.alloc oQ _);generalize hw2:w1.alloc (.cells #[.int .i64 pn,.int .i64 pe] 32)=w2 at C0 C1 C2 HB⊢;clear hw2 HB1;obtain ⟨c0,c1,c2,c3,c4,c5,c6,c7,cf⟩:=C0.BM;obtain ⟨r0,r1,r2,r3,r4,r5,r6,r7,rf⟩:=C1.BM;obtain ⟨p0,p1,pf⟩:=C2.uW;have hne1: ¬ w1.heap.size=w.heap.size:=oQ;have hne2: ¬ w1.heap.size=w.heap.size+1:=oQ
 try simp only at HR HZ
 clear hb1;by_cases hz:z=0
 ·obtain ⟨q0,q3,_,_,hpl⟩:=HZ.out hz;have hpe:pe<=1048576/\0<=pe:=by
   unfold zl at hpl;simp only at hpl;omega
  obtain ⟨pe1,pe2⟩:=hpe;have HR2:=Lib.hid (HR.out.trans (if_neg (by simpa using hz)));subst hz;clear hpl HR;by_cases b1:node<0
  ·have e:=HR2.out;rw [if_pos oQ] at e;subst e
   go_wp2_with fail
   refine bodyPost_ret (v:= .tuple #[.agg #[.int .i64 0,.int .i64 0,.int .i64 0,.int .i64 0,.int .i64 0,.int .i64 0,.int .i64 0,.int .i64 0],.int .i64 2]) (by simp [results,Tryz.results71,go_sem,r0,r1,r2,r3,r4,r5,r6,r7]) rfl ?_;have hB:=HB.out;exact ⟨rfl,by go_grown⟩
  by_cases b2:5<=node
  ·have e:=HR2.out;rw [if_pos oQ] at e;subst e
   go_wp2_with fail
   refine bodyPost_ret (v:= .tuple #[.agg #[.int .i64 0,.int .i64 0,.int .i64 0,.int .i64 0,.int .i64 0,.int .i64 0,.int .i64 0,.int .i64 0],.int .i64 2]) (by simp [results,Tryz.results71,go_sem,r0,r1,r2,r3,r4,r5,r6,r7]) rfl ?_;have hB:=HB.out;exact ⟨rfl,by go_grown⟩
  have HR3:=Lib.hid (HR2.out.trans (if_neg oQ));clear HR2;by_cases b3:pe=epoch
  ·have HR4:=Lib.hid (HR3.out.trans (if_neg (by simpa using b3)));subst b3;clear HR3;by_cases b4:pn=node
   ·have e:=HR4.out;rw [if_pos b4] at e;subst e;have t4:(pn==node)=true:=by simpa using b4
    clear b4
    go_wp2_with fail
    refine bodyPost_ret (v:= .tuple #[.agg #[.int .i64 0,.int .i64 0,.int .i64 0,.int .i64 0,.int .i64 0,.int .i64 0,.int .i64 0,.int .i64 0],.int .i64 8]) (by simp [results,Tryz.results71,go_sem,r0,r1,r2,r3,r4,r5,r6,r7]) rfl ?_;have hB:=HB.out;exact ⟨rfl,by go_grown⟩
   have HR5:=Lib.hid (HR4.out.trans (if_neg b4));have t4:(pn==node)=false:=by simpa using b4
   clear b4 HR4;by_cases b5:pe=1048576
   ·have e:=HR5.out;rw [if_pos b5] at e;subst e;subst b5
    go_wp2_with fail
    refine bodyPost_ret (v:= .tuple #[.agg #[.int .i64 0,.int .i64 0,.int .i64 0,.int .i64 0,.int .i64 0,.int .i64 0,.int .i64 0,.int .i64 0],.int .i64 14]) (by simp [results,Tryz.results71,go_sem,r0,r1,r2,r3,r4,r5,r6,r7]) rfl ?_;have hB:=HB.out;exact ⟨rfl,by go_grown⟩
   have e:=HR5.out;rw [if_neg b5] at e;subst e;have t5:(pe==1048576)=false:=by simpa using b5
   clear b5 HR5
   rcases (show q=0\/q=1\/q=2\/q=3 by omega) with rfl | rfl | rfl | rfl
   ·go_wp2_with fail
    refine bodyPost_ret (v:= .tuple #[.agg #[.int .i64 node,.int .i64 (pe+1),.int .i64 n1,.int .i64 e1,.int .i64 n2,.int .i64 e2,.int .i64 n3,.int .i64 e3],.int .i64 0]) (by simp [results,Tryz.results71,go_sem,r0,r1,r2,r3,r4,r5,r6,r7,c0,c1,c2,c3,c4,c5,c6,c7]) rfl ?_;have hB:=HB.out;exact ⟨rfl,by go_grown⟩
   ·go_wp2_with fail
    refine bodyPost_ret (v:= .tuple #[.agg #[.int .i64 n0,.int .i64 e0,.int .i64 node,.int .i64 (pe+1),.int .i64 n2,.int .i64 e2,.int .i64 n3,.int .i64 e3],.int .i64 0]) (by simp [results,Tryz.results71,go_sem,r0,r1,r2,r3,r4,r5,r6,r7,c0,c1,c2,c3,c4,c5,c6,c7]) rfl ?_;have hB:=HB.out;exact ⟨rfl,by go_grown⟩
   ·go_wp2_with fail
    refine bodyPost_ret (v:= .tuple #[.agg #[.int .i64 n0,.int .i64 e0,.int .i64 n1,.int .i64 e1,.int .i64 node,.int .i64 (pe+1),.int .i64 n3,.int .i64 e3],.int .i64 0]) (by simp [results,Tryz.results71,go_sem,r0,r1,r2,r3,r4,r5,r6,r7,c0,c1,c2,c3,c4,c5,c6,c7]) rfl ?_;have hB:=HB.out;exact ⟨rfl,by go_grown⟩
   go_wp2_with fail
   refine bodyPost_ret (v:= .tuple #[.agg #[.int .i64 n0,.int .i64 e0,.int .i64 n1,.int .i64 e1,.int .i64 n2,.int .i64 e2,.int .i64 node,.int .i64 (pe+1)],.int .i64 0]) (by simp [results,Tryz.results71,go_sem,r0,r1,r2,r3,r4,r5,r6,r7,c0,c1,c2,c3,c4,c5,c6,c7]) rfl ?_;have hB:=HB.out;exact ⟨rfl,by go_grown⟩
  have e:=HR3.out;rw [if_pos (by simpa using b3)] at e;subst e;have t3:(pe==epoch)=false:=by simpa using b3
  have t3':(pe != epoch)=true:=by simpa using b3
  clear b3
  go_wp2_with fail
  refine bodyPost_ret (v:= .tuple #[.agg #[.int .i64 0,.int .i64 0,.int .i64 0,.int .i64 0,.int .i64 0,.int .i64 0,.int .i64 0,.int .i64 0],.int .i64 15]) (by simp [results,Tryz.results71,go_sem,r0,r1,r2,r3,r4,r5,r6,r7]) rfl ?_;have hB:=HB.out;exact ⟨rfl,by go_grown⟩
 have e:=HR.out;rw [if_pos hz] at e;subst e;have t0:(z==0)=false:=by simpa using hz
 have t0':(z != 0)=true:=by simpa using hz
 clear hz
 go_wp2_with fail
 refine bodyPost_ret (v:= .tuple #[.agg #[.int .i64 0,.int .i64 0,.int .i64 0,.int .i64 0,.int .i64 0,.int .i64 0,.int .i64 0,.int .i64 0],.int .i64 z]) (by simp [results,Tryz.results71,go_sem,r0,r1,r2,r3,r4,r5,r6,r7]) rfl ?_;have hB:=HB.out;exact ⟨rfl,by go_grown⟩
end Go.Proofs.YtcomidffhiilcaaGreatDoor
