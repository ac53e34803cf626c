import Derived.Laws.BitsAllLaws
import Derived.Lib.SliceRun
import Derived.Deep.RegionLaw
import Derived.Scope
import Derived.Lib.AppendStr
import Derived.Lib.ItoaLen
import Derived.Lib.BufferRead
import Derived.Laws.IdiomStrings
import Derived.Lib.Builder
import Derived.Laws.Strings2
import Derived.Laws.Strings3
import Derived.Laws.Slices
import Derived.RangeFuncIn
import Derived.RangeFuncLeaves
import Derived.RangeFuncRecord
import Derived.RangeFuncCalls
import Derived.OrdersIn
import Derived.Test.YtcomidffhiilcaaGreatDoorGb122e
set_option maxRecDepth 100000
set_option maxHeartbeats 8000000
set_option linter.unusedSimpArgs false
set_option linter.unusedVariables false
namespace Go.Proofs.YtcomidffhiilcaaGreatDoor
section
open ChangeShapes WideShapes RowKit
def bn (l:List Ev):List Value:=l.flatMap Ev.cells
theorem fB (l:List Ev): ∀ u∈bn l,u.oneCell'=true:=by
 intro u hu;simp only [bn,List.mem_flatMap,Ev.cells] at hu;obtain ⟨e,_,hu⟩:=hu;simp only [List.mem_cons,List.not_mem_nil,or_false] at hu
 rcases hu with rfl | rfl | rfl | rfl | rfl | rfl<;>rfl
inductive Pick (l:Slots):List Nat->Slots->Prop
 | z:Pick l [] []
 | s {k:Nat} {ks:List Nat} {v:Value} {l':Slots}:lk l k=some v->Pick l ks l'->Pick l (k::ks) ((k,v)::l')
theorem Pick.sub {l:Slots} {ks:List Nat} {l':Slots} (h:Pick l ks l'):Ck l l':=by
 induction h with
 | z=>exact trivial
 | s h _ ih=>exact ⟨h,ih⟩
inductive iR (f:Fact):List Fact->Nat->List Fact->Prop
 | z {g:Fact} {fs:List Fact}:iR f (g::fs) 0 (f::fs)
 | s {g:Fact} {fs fs':List Fact} {i:Nat}:iR f fs i fs'->iR f (g::fs) (i+1) (g::fs')
theorem iR.eq {f:Fact} {fs fs':List Fact} {i:Nat} (h:iR f fs i fs'):fs.set i f=fs':=by
 induction h with
 | z=>rfl
 | s _ ih=>rw [List.set_cons_succ,ih]
def ajV:List Nat->List Fact->List Fact
 | [],fs=>fs
 | i::is,fs=>ajV is (fs.eraseIdx i)
theorem St.mg {B:Nat} {w0 w:World}: ∀ {fs:List Fact} (_:St B w0 w fs) (is:List Nat),St B w0 w (ajV is fs)
 | _,S,[]=>S
 | _,S,i::is=>(St.del i S).mg is
theorem EL {α:Type} {enc:α->List Value} {w:World} {B sz n:Nat} {A:Option Addr} {l:List α} (k:Nat) (h:Rd w B sz A n (l.flatMap enc)) (hk:k<n) (hs: ∀ x,(enc x).length=sz:=by exact λ_=>rfl) (hz:Nat.blt 0 sz=true:=by exact rfl): ∃ x,l[k]? =some x:=by
 have h1:=h.1;rw [iE hs] at h1;have h2:l.length=n:=Nat.eq_of_mul_eq_mul_right (Nat.le_of_ble_eq_true hz) h1;exact ⟨_,List.getElem?_eq_getElem oQ⟩
section
variable {P:Program} {N:Nat} {l l':Slots} {w w' w0:World} {ops:Array Oper} {o:Oper} {rest:List Oper} {Q:Exit->Act->World->Prop} {d B:Nat} {v p:Value} {fs fs':List Fact} {ex:Exit}
theorem qk (ks:List Nat) (h:wQ N Q .normal l' w) (hp:Pick l ks l':=by repeat' first | exact Pick.z | apply Pick.s rfl):wL P N ops Q [] l w:=aT (aK hp.sub h)
theorem pk (ks:List Nat) (h:wQ N Q ex l' w) (hp:Pick l ks l':=by repeat' first | exact Pick.z | apply Pick.s rfl):wQ N Q ex l w:=aK hp.sub h
theorem cw {c:Code} (ks:List Nat) (h:wC P N c Q l' w) (hp:Pick l ks l':=by repeat' first | exact Pick.z | apply Pick.s rfl):wC P N c Q l w:=bg hp.sub h
section
variable {x:Operand}
theorem ym (ho:o.op= .move x:=by exact rfl) (hx:ev l x=some v:=by exact rfl):iP P N l o w v:=nT ho hx
theorem ya (ho:o.op= .assign x:=by exact rfl) (hx:ev l x=some v:=by exact rfl):iP P N l o w v:=p9 ho hx
theorem yx {k:Nat} {vs:Array Value} (ho:o.op= .extract x k:=by exact rfl) (hx:ev l x=some (.tuple vs):=by exact rfl) (hk:vs[k]? =some v:=by exact rfl):iP P N l o w v:=Yp ho hx hk
theorem ypT {c y:Operand} (ho:o.op= .pick c x y:=by exact rfl) (hc:ev l c=some (.bool true):=by exact rfl) (hx:ev l x=some v:=by exact rfl):iP P N l o w v:=Qy ho hc hx
theorem Lu {c y:Operand} (ho:o.op= .pick c x y:=by exact rfl) (hc:ev l c=some (.bool false):=by exact rfl) (hx:ev l y=some v:=by exact rfl):iP P N l o w v:=JA ho hc hx
theorem yno {t:TypeId} {b c:Bool} (ho:o.op= .unOp .not t x:=by exact rfl) (hx:ev l x=some (.bool b):=by exact rfl) (hb:(!b)=c:=by exact rfl):iP P N l o w (.bool c):=hb▸EH ho hx OI
theorem ylr {b m:Nat} {row:Array Value} {tt t:TypeId} {ds:TypeDesc} (i:Nat) (S:St B w0 w fs) (hu:P.underlying t=some ds) (hz:(P.info? t).map (·.size)=some m) (ho:o.op= .load t x:=by exact rfl) (hx:ev l x=some (.pointer (some ⟨b,0,none⟩)):=by exact rfl)
  (hi:fs[i]? =some (.blk b row tt):=by exact rfl) (hd:ds.isRow=true:=by exact rfl) (hm:row.size=m:=by exact rfl):iP P N l o w (.agg row):=ah ho hx (jc i S hi hu hd hz hm)
theorem ylc {b k:Nat} {row:Array Value} {tt t:TypeId} {ds:TypeDesc} (i:Nat) (S:St B w0 w fs) (hu:P.underlying t=some ds) (ho:o.op= .load t x:=by exact rfl) (hx:ev l x=some (.pointer (some ⟨b,k,none⟩)):=by exact rfl) (hd:ds.isRow=false:=by exact rfl)
  (hi:fs[i]? =some (.blk b row tt):=by exact rfl) (hk:row[k]? =some v:=by exact rfl):iP P N l o w v:=ah ho hx (gU hu hd (St.cl i S hi hk))
theorem vH {s:TypeId} {f b o0:Nat} {g:Nat->Nat} (o':Nat) (hf: ∀ (b o:Nat) (w:World),(Instr.fieldAt s (.pointer (some ⟨b,o,none⟩)) f).run P w= .ok (.pointer (some ⟨b,g o,none⟩)) w) (ho:o.op= .fieldAddr s x f:=by exact rfl)
  (hx:ev l x=some (.pointer (some ⟨b,o0,none⟩)):=by exact rfl) (he:g o0=o':=by exact rfl):iP P N l o w (.pointer (some ⟨b,o',none⟩)):=he▸Gn ho hx (hf b o0 w)
theorem jm {t:TypeId} (ho:o.op= .build t ([]:List (Nat×Operand)).toArray:=by exact rfl) (hr:(Instr.build t ([]:List (Nat×Value)).toArray).run P w= .ok (.agg #[iV 0,iV 0,iV 0,iV 0,iV 0,.slice none 0 0]) w:=by kernel_rfl):iP P N l o w (.agg #[iV 0,iV 0,iV 0,iV 0,iV 0,.slice none 0 0]):=xC (vs:=[]) ho trivial hr
theorem yz {t:TypeId} (ho:o.op= .build t ([]:List (Nat×Operand)).toArray:=by exact rfl) (hr:(Instr.build t ([]:List (Nat×Value)).toArray).run P w= .ok v w:=by kernel_rfl):iP P N l o w v:=xC (vs:=[]) ho trivial hr
end
section
variable {t tt:TypeId} {kd:IntKind} {xo yo:Operand} {x y:Int}
theorem OP (h:x<y) (ho:o.op= .binOp .lss t xo yo tt:=by exact rfl) (hx:ev l xo=some (.int kd x):=by exact rfl) (hy:ev l yo=some (.int kd y):=by exact rfl):iP P N l o w (.bool true):=aC ho hx hy (Og h)
theorem Cm (ho:o.op= .binOp .lss t xo yo tt:=by exact rfl) (hx:ev l xo=some (.int kd x):=by exact rfl) (hy:ev l yo=some (.int kd y):=by exact rfl) (h:x<y:=by decide):iP P N l o w (.bool true):=aC ho hx hy (Og h)
theorem OQ (h: ¬ x<y) (ho:o.op= .binOp .lss t xo yo tt:=by exact rfl) (hx:ev l xo=some (.int kd x):=by exact rfl) (hy:ev l yo=some (.int kd y):=by exact rfl):iP P N l o w (.bool false):=aC ho hx hy (Oh h)
theorem abU (ho:o.op= .binOp .lss t xo yo tt:=by exact rfl) (hx:ev l xo=some (.int kd x):=by exact rfl) (hy:ev l yo=some (.int kd y):=by exact rfl) (h: ¬ x<y:=by decide):iP P N l o w (.bool false):=aC ho hx hy (Oh h)
theorem ajW (h:x<=y) (ho:o.op= .binOp .leq t xo yo tt:=by exact rfl) (hx:ev l xo=some (.int kd x):=by exact rfl) (hy:ev l yo=some (.int kd y):=by exact rfl):iP P N l o w (.bool true):=aC ho hx hy (Xi h)
theorem ajX (h: ¬ x<=y) (ho:o.op= .binOp .leq t xo yo tt:=by exact rfl) (hx:ev l xo=some (.int kd x):=by exact rfl) (hy:ev l yo=some (.int kd y):=by exact rfl):iP P N l o w (.bool false):=aC ho hx hy (Xj h)
theorem atv (h:y<x) (ho:o.op= .binOp .gtr t xo yo tt:=by exact rfl) (hx:ev l xo=some (.int kd x):=by exact rfl) (hy:ev l yo=some (.int kd y):=by exact rfl):iP P N l o w (.bool true):=aC ho hx hy (H6 h)
theorem atw (h: ¬ y<x) (ho:o.op= .binOp .gtr t xo yo tt:=by exact rfl) (hx:ev l xo=some (.int kd x):=by exact rfl) (hy:ev l yo=some (.int kd y):=by exact rfl):iP P N l o w (.bool false):=aC ho hx hy (H7 h)
theorem ajY (h:x=y) (ho:o.op= .binOp .eql t xo yo tt:=by exact rfl) (hx:ev l xo=some (.int kd x):=by exact rfl) (hy:ev l yo=some (.int kd y):=by exact rfl):iP P N l o w (.bool true):=aC ho hx hy (Oi h)
theorem abV (h: ¬ x=y) (ho:o.op= .binOp .eql t xo yo tt:=by exact rfl) (hx:ev l xo=some (.int kd x):=by exact rfl) (hy:ev l yo=some (.int kd y):=by exact rfl):iP P N l o w (.bool false):=aC ho hx hy (Oj h)
theorem atx (h: ¬ x=y) (ho:o.op= .binOp .neq t xo yo tt:=by exact rfl) (hx:ev l xo=some (.int kd x):=by exact rfl) (hy:ev l yo=some (.int kd y):=by exact rfl):iP P N l o w (.bool true):=aC ho hx hy (H8 h)
theorem ajZ (h:x=y) (ho:o.op= .binOp .neq t xo yo tt:=by exact rfl) (hx:ev l xo=some (.int kd x):=by exact rfl) (hy:ev l yo=some (.int kd y):=by exact rfl):iP P N l o w (.bool false):=aC ho hx hy (Dr h)
theorem Lg (ho:o.op= .binOp .neq t xo yo tt:=by exact rfl) (hx:ev l xo=some (.int kd x):=by exact rfl) (hy:ev l yo=some (.int kd y):=by exact rfl) (h:x=y:=by decide):iP P N l o w (.bool false):=aC ho hx hy (Dr h)
end
section
variable {C:World->Prop} {Qa:Act->Prop} {j:Nat} {t:Nat} {u:Value} {x:Operand}
theorem vv (hy:iP P N l o w v) (h:wL P N ops Q rest ((d,v)::l) w) (hw:o.guard=none:=by exact rfl) (hd:o.dst=some d:=by exact rfl) (hN:Nat.blt d N=true:=by exact rfl):wL P N ops Q (o::rest) l w:=bq (wn hw) hd hN hy h
theorem vm (h:wL P N ops Q rest ((d,v)::l) w) (hw:o.guard=none:=by exact rfl) (hd:o.dst=some d:=by exact rfl) (hN:Nat.blt d N=true:=by exact rfl) (ho:o.op= .move x:=by exact rfl) (hx:ev l x=some v:=by exact rfl):wL P N ops Q (o::rest) l w:=bq (wn hw) hd hN (nT ho hx) h
theorem va (h:wL P N ops Q rest ((d,v)::l) w) (hw:o.guard=none:=by exact rfl) (hd:o.dst=some d:=by exact rfl) (hN:Nat.blt d N=true:=by exact rfl) (ho:o.op= .assign x:=by exact rfl) (hx:ev l x=some v:=by exact rfl):wL P N ops Q (o::rest) l w:=bq (wn hw) hd hN (p9 ho hx) h
theorem vg {b:Bool} (hy:iP P N l o w v) (h:wL P N ops Q rest ((d,v)::l) w) (hg:o.guard=some (j,b):=by exact rfl) (hj:(ops[j]?).bind (·.dst)=some t:=by exact rfl) (hv:lk l t=some u:=by exact rfl) (hr:(yl u==some b)=true:=by exact rfl)
  (hd:o.dst=some d:=by exact rfl) (hN:Nat.blt d N=true:=by exact rfl):wL P N ops Q (o::rest) l w:=bq (wg hg hj hv hr) hd hN hy h
theorem vs {b:Bool} (h:wL P N ops Q rest ((d,undef)::l) w) (hg:o.guard=some (j,b):=by exact rfl) (hj:(ops[j]?).bind (·.dst)=some t:=by exact rfl) (hv:lk l t=some u:=by exact rfl) (hr:(yl u==some b)=false:=by exact rfl) (hd:o.dst=some d:=by exact rfl) (hN:Nat.blt d N=true:=by exact rfl):wL P N ops Q (o::rest) l w:=xB (wg hg hj hv hr) hd hN h
theorem uv (hy: ∀ w,C w->iP P N l o w v) (h:wU P N ops C Qa rest ((d,v)::l)) (hw:o.guard=none:=by exact rfl) (hd:o.dst=some d:=by exact rfl) (hN:Nat.blt d N=true:=by exact rfl):wU P N ops C Qa (o::rest) l:=Mx (wn hw) hd hN hy h
theorem ug {b:Bool} (hy: ∀ w,C w->iP P N l o w v) (h:wU P N ops C Qa rest ((d,v)::l)) (hg:o.guard=some (j,b):=by exact rfl) (hj:(ops[j]?).bind (·.dst)=some t:=by exact rfl) (hv:lk l t=some u:=by exact rfl) (hr:(yl u==some b)=true:=by exact rfl)
  (hd:o.dst=some d:=by exact rfl) (hN:Nat.blt d N=true:=by exact rfl):wU P N ops C Qa (o::rest) l:=Mx (wg hg hj hv hr) hd hN hy h
theorem ak {n:Nat} {listed listed':Array Bool} (i:Nat) (hi:ops[i]? =some o) (hS:C w) (hy: ∀ w,C w->iP P N l o w v) (h:wA P N ops Q C n listed' ((d,v)::l) w) (hs:Region.noSelect ops=true:=by kernel_rfl) (hf:Region.free .any ops listed i=true:=by kernel_rfl)
  (hr:(Region.ready .any ops listed).contains i=true:=by kernel_rfl) (hl:listed.setIfInBounds i true=listed':=by exact rfl) (hw:o.guard=none:=by exact rfl) (hd:o.dst=some d:=by exact rfl) (hN:Nat.blt d N=true:=by exact rfl):wA P N ops Q C (n+1) listed l w:=Dt hi hs hf hr hS hl (wn hw) hd hN hy h
theorem gk {n m:Nat} {listed listed':Array Bool} (i:Nat) (hi:ops[i]? =some o) (hS:C w) (hy: ∀ w,C w->iP P N l o w v) (h:wG P N ops Q C n m listed' ((d,v)::l) w) (hs:Region.noSelect ops=true:=by kernel_rfl) (hf:Region.free .any ops listed i=true:=by kernel_rfl)
  (hr:(Region.ready .any ops listed).contains i=true:=by kernel_rfl) (hnl:listed.getD n true=false:=by exact rfl) (hni:wS ops n i=true:=by kernel_rfl) (hne:Nat.beq n i=false:=by exact rfl) (hl:listed.setIfInBounds i true=listed':=by exact rfl) (hw:o.guard=none:=by exact rfl)
  (hd:o.dst=some d:=by exact rfl) (hN:Nat.blt d N=true:=by exact rfl):wG P N ops Q C n (m+1) listed l w:=l9 hi hs hf hr hnl hni hne hS hl (wn hw) hd hN hy h
theorem aY {n:Nat} {listed:Array Bool} (r:Nat) (h:wK P N ops Q C n r listed l w) (hr:Region.ready .any ops listed=[r]:=by kernel_rfl):wA P N ops Q C (n+1) listed l w:=gJ hr h
end
section
variable {b m f:Nat} {row row' cs:Array Value} {t ty:TypeId} {x y:Operand} {ds:TypeDesc} {z u:Value}
theorem sa (i:Nat) (S:St B w0 w fs) (hz:(P.info? ty).map (·.size)=some m) (h: ∀ w',St B w0 w' fs'->wL P N ops Q rest l w') (hw:o.guard=none:=by exact rfl) (hd:o.dst=none:=by exact rfl) (ho:o.op= .store ty x y:=by exact rfl)
  (hx:ev l x=some (.pointer (some ⟨b,0,none⟩)):=by exact rfl) (hy:ev l y=some v:=by exact rfl) (hi:fs[i]? =some (.blk b row t):=by exact rfl) (hv:v.cells=cs:=by exact rfl) (hm:cs.size=m:=by exact rfl)
  (h1:cs.toList.all (·.oneCell')=true:=by exact rfl) (hr:Nat.ble m row.size=true:=by exact rfl) (hs:row.size=cs.size:=by exact rfl) (hf:iR (.blk b cs t) fs i fs':=by repeat' first | exact iR.z | apply iR.s):wL P N ops Q (o::rest) l w:=
 fq i S (wn hw) hd ho hx hy hi hv hz hm (aM h1) (by rw [Nat.zero_add];exact Nat.le_of_ble_eq_true hr) (lU hs) hf.eq h
theorem sr {off:Nat} {row':Array Value} (i:Nat) (S:St B w0 w fs) (hz:(P.info? ty).map (·.size)=some m) (h: ∀ w',St B w0 w' fs'->wL P N ops Q rest l w') (hw:o.guard=none:=by exact rfl) (hd:o.dst=none:=by exact rfl) (ho:o.op= .store ty x y:=by exact rfl)
  (hx:ev l x=some (.pointer (some ⟨b,off,none⟩)):=by exact rfl) (hy:ev l y=some v:=by exact rfl) (hi:fs[i]? =some (.blk b row t):=by exact rfl) (hv:v.cells=cs:=by exact rfl) (hm:cs.size=m:=by exact rfl)
  (h1:cs.toList.all (·.oneCell')=true:=by exact rfl) (hr:Nat.ble (off+m) row.size=true:=by exact rfl) (hs:cB row off cs.toList=row':=by exact rfl) (hf:iR (.blk b row' t) fs i fs':=by repeat' first | exact iR.z | apply iR.s):wL P N ops Q (o::rest) l w:=
 fq i S (wn hw) hd ho hx hy hi hv hz hm (aM h1) (Nat.le_of_ble_eq_true hr) hs hf.eq h
theorem sn {C:World->Prop} {n:Nat} {listed listed':Array Bool} (j:Nat) (hi':ops[j]? =some o) (i:Nat) (S:St B w0 w fs) (hz:(P.info? ty).map (·.size)=some m) (h: ∀ w',St B w0 w' fs'->C w'/\wA P N ops Q C n listed' l w') (hl:listed.setIfInBounds j true=listed':=by exact rfl)
  (hw:o.guard=none:=by exact rfl) (hd:o.dst=none:=by exact rfl) (ho:o.op= .store ty x y:=by exact rfl) (hx:ev l x=some (.pointer (some ⟨b,0,none⟩)):=by exact rfl) (hy:ev l y=some v:=by exact rfl) (hi:fs[i]? =some (.blk b row t):=by exact rfl) (hv:v.cells=cs:=by exact rfl)
  (hm:cs.size=m:=by exact rfl) (h1:cs.toList.all (·.oneCell')=true:=by exact rfl) (hr:Nat.ble m row.size=true:=by exact rfl) (hs:row.size=cs.size:=by exact rfl) (hf:iR (.blk b cs t) fs i fs':=by repeat' first | exact iR.z | apply iR.s):wK P N ops Q C n j listed l w:=
 sD hi' hl i S (wn hw) hd ho hx hy hi hv hz hm (aM h1) (by rw [Nat.zero_add];exact Nat.le_of_ble_eq_true hr) (lU hs) hf.eq h
theorem xS {vs:List Value} {R:Ending->World->Prop} {xs:List Operand} {ts:Array TypeId} {j tg:Nat} {bb:Bool} (I5: ∀ args w,(callFunc f args).run P w= .ok (.enter f args) w) (hc:Calls P f vs.toArray w R) (h: ∀ e w',R e w'-> ∃ v,e= .returned v/\wL P N ops Q rest ((d,v)::l) w')
  (hg:o.guard=some (j,bb):=by exact rfl) (hj:(ops[j]?).bind (·.dst)=some tg:=by exact rfl) (hv:lk l tg=some u:=by exact rfl) (hr:(yl u==some bb)=true:=by exact rfl) (hd:o.dst=some d:=by exact rfl) (hN:Nat.blt d N=true:=by exact rfl)
  (ho:o.op= .call { callee:= .value (.func f),args:=xs.toArray,argTypes:=ts }:=by exact rfl) (hx:Mr l xs vs:=by repeat' first | exact trivial | refine ⟨rfl,?_⟩):wL P N ops Q (o::rest) l w:=jy (wg hg hj hv hr) hd hN (eF ho I5 hx) hc h
theorem awD {C:World->Prop} {n:Nat} {listed listed':Array Bool} {vs:List Value} {R:Ending->World->Prop} {xs:List Operand} {ts:Array TypeId} (j:Nat) (hi':ops[j]? =some o) (I5: ∀ args w,(callFunc f args).run P w= .ok (.enter f args) w) (hc:Calls P f vs.toArray w R)
  (h: ∀ e w',R e w'-> ∃ v,e= .returned v/\C w'/\wA P N ops Q C n listed' ((d,v)::l) w') (hl:listed.setIfInBounds j true=listed':=by exact rfl) (hw:o.guard=none:=by exact rfl) (hd:o.dst=some d:=by exact rfl) (hN:Nat.blt d N=true:=by exact rfl)
  (ho:o.op= .call { callee:= .value (.func f),args:=xs.toArray,argTypes:=ts }:=by exact rfl) (hx:Mr l xs vs:=by repeat' first | exact trivial | refine ⟨rfl,?_⟩):wK P N ops Q C n j listed l w:=uG hi' hl (wn hw) hd hN (eF ho I5 hx) hc h
theorem na {row:Array Value} (S:St B w0 w fs) (hz: ∀ w,(zeroValue t).run P w= .ok z w) (h: ∀ b w',St B w0 w' (.blk b row t::fs)->wL P N ops Q rest ((d,.pointer (some ⟨b,0,none⟩))::l) w') (hw:o.guard=none:=by exact rfl) (hd:o.dst=some d:=by exact rfl)
  (hN:Nat.blt d N=true:=by exact rfl) (ho:o.op= .alloc t:=by exact rfl) (hc:z.cells=row:=by exact rfl):wL P N ops Q (o::rest) l w:=iD (V:=λb=> .pointer (some ⟨b,0,none⟩)) S (wn hw) hd hN (fD ho (hz w) hc) h
theorem nb {row:Array Value} (S:St B w0 w fs) (h: ∀ b w',St B w0 w' (.blk b row t::fs)->wL P N ops Q rest ((d,.pointer (some ⟨b,0,none⟩))::l) w') (hw:o.guard=none:=by exact rfl) (hd:o.dst=some d:=by exact rfl)
  (hN:Nat.blt d N=true:=by exact rfl) (ho:o.op= .box t x:=by exact rfl) (hx:ev l x=some p:=by exact rfl) (hc:p.cells=row:=by exact rfl):wL P N ops Q (o::rest) l w:=iD (V:=λb=> .pointer (some ⟨b,0,none⟩)) S (wn hw) hd hN (Uw ho hx hc) h
theorem dL {vs:List Value} {R:Ending->World->Prop} {xs:List Operand} {ts:Array TypeId} (I5: ∀ args w,(callFunc f args).run P w= .ok (.enter f args) w) (hc:Calls P f vs.toArray w R) (h: ∀ e w',R e w'-> ∃ v,e= .returned v/\wL P N ops Q rest ((d,v)::l) w')
  (hw:o.guard=none:=by exact rfl) (hd:o.dst=some d:=by exact rfl) (hN:Nat.blt d N=true:=by exact rfl) (ho:o.op= .call { callee:= .value (.func f),args:=xs.toArray,argTypes:=ts }:=by exact rfl) (hx:Mr l xs vs:=by repeat' first | exact trivial | refine ⟨rfl,?_⟩):
  wL P N ops Q (o::rest) l w:=jy (wn hw) hd hN (eF ho I5 hx) hc h
theorem cab {vs:List Value} {xs:List Operand} {ts:Array TypeId} (I5: ∀ args w,(callFunc f args).run P w= .ok (.enter f args) w) (S:St B w0 w fs) (hc:Calls P f vs.toArray w λe w'=>e= .returned v/\Below w.heap.size w w') (h: ∀ w',St B w0 w' fs->wL P N ops Q rest ((d,v)::l) w')
  (hw:o.guard=none:=by exact rfl) (hd:o.dst=some d:=by exact rfl) (hN:Nat.blt d N=true:=by exact rfl) (ho:o.op= .call { callee:= .value (.func f),args:=xs.toArray,argTypes:=ts }:=by exact rfl) (hx:Mr l xs vs:=by repeat' first | exact trivial | refine ⟨rfl,?_⟩):
  wL P N ops Q (o::rest) l w:=jy (wn hw) hd hN (eF ho I5 hx) hc λ_ w' h'=>⟨v,h'.1,h w' (S.on h'.2)⟩
theorem pt {fn:Func} {R:Ending->World->Prop} {j:Nat} (hR:R (.returned (oq [v])) w) (hr:fn.results=[ResultVar.tmp j].toArray:=by exact rfl) (h2:lk l j=some v:=by exact rfl):wQ N (bodyPost P fn R) .ret l w:=bQ (vs:=[v]) hr ⟨h2,trivial⟩ hR
theorem gK {fn:Func} {c:Code} {vs:List Value} {R:Ending->World->Prop} (N:Nat) (hf:P.funcs[f]? =some fn) (h:wC P N c (bodyPost P fn R) (ents 0 vs) w) (hb:fn.body=some c:=by exact rfl) (hn:fn.ntmps=N:=by exact rfl) (hN:Nat.ble vs.length N=true:=by exact rfl):Calls P f vs.toArray w R:=pI hf hb hn hN h
end
section
theorem tK {c6 c8:Code} {q3:Exit->Act->World->Prop} {o4:Operand} {i10:Nat} {os9:List Oper} (h:wL P N os9.toArray (Exit.then (c8.wp P q3) q3) os9 l w) (hc0:ev l o4=some (.bool true):=by exact rfl):wQ N (Exit.then ((Code.cond o4 (Code.seq (Code.region i10 os9.toArray false) c8) c6).wp P q3) q3) .normal l w:=ay (dO hc0 (aA (av h)))
theorem aty {q5:Exit->Act->World->Prop} {k4:Act->World->Prop} (h:wQ N q5 .ret l w):wQ N (Exit.then (Code.ret.wp P (Exit.then k4 q5)) (Exit.then k4 q5)) .normal l w:=ay (fP (aO h))
theorem yF {c5:Code} {q3:Exit->Act->World->Prop} {i7:Nat} {os6:List Oper} (h:wL P N os6.toArray (Exit.then (c5.wp P q3) q3) os6 l w):wQ N (Exit.then ((Code.seq (Code.region i7 os6.toArray false) c5).wp P q3) q3) .normal l w:=ay (aA (av h))
theorem yS {c5 c7:Code} {q3:Exit->Act->World->Prop} {i9:Nat} {os8:List Oper} (h:wL P N os8.toArray (Exit.then (c7.wp P (Exit.then (c5.wp P q3) q3)) (Exit.then (c5.wp P q3) q3)) os8 l w):wQ N (Exit.then ((Code.seq (Code.seq (Code.region i9 os8.toArray false) c7) c5).wp P q3) q3) .normal l w:=ay (aA (aA (av h)))
theorem Ux {q3:Exit->Act->World->Prop} (h:wQ N q3 .ret l w):wQ N (Exit.then (Code.ret.wp P q3) q3) .normal l w:=ay (fP h)
theorem QC {c5 c10:Code} {q8:Exit->Act->World->Prop} {o4:Operand} {i12:Nat} {afU:List Oper} (h:wL P N afU.toArray (Exit.then (c10.wp P q8) q8) afU l w) (hc0:ev l o4=some (.bool false):=by exact rfl):wQ N (Exit.then ((Code.cond o4 c5 Code.skip).wp P (Exit.then ((Code.seq (Code.region i12 afU.toArray false) c10).wp P q8) q8)) (Exit.then ((Code.seq (Code.region i12 afU.toArray false) c10).wp P q8) q8)) .normal l w:=ay (bZ hc0 (fC (ay (aA (av h)))))
theorem YG {c5 c10 c12:Code} {q8:Exit->Act->World->Prop} {o4:Operand} {i14:Nat} {afV:List Oper} (h:wL P N afV.toArray (Exit.then (c12.wp P (Exit.then (c10.wp P q8) q8)) (Exit.then (c10.wp P q8) q8)) afV l w) (hc0:ev l o4=some (.bool false):=by exact rfl):wQ N (Exit.then ((Code.cond o4 c5 Code.skip).wp P (Exit.then ((Code.seq (Code.seq (Code.region i14 afV.toArray false) c12) c10).wp P q8) q8)) (Exit.then ((Code.seq (Code.seq (Code.region i14 afV.toArray false) c12) c10).wp P q8) q8)) .normal l w:=ay (bZ hc0 (fC (ay (aA (aA (av h))))))
theorem YH {c4:Code} {q2:Exit->Act->World->Prop} {i6:Nat} {os5:List Oper} (h:wL P N os5.toArray (Exit.then (c4.wp P q2) q2) os5 l w):wC P N (Code.seq (Code.region i6 os5.toArray false) c4) q2 l w:=aA (av h)
end
end
end
section
open ChangeShapes WideShapes ChangeAt RowKit
section
variable {P:Program} {N:Nat} {l:Slots} {w w' w0:World} {B:Nat} {fs fs':List Fact} {ops:Array Oper} {o:Oper} {rest:List Oper} {Q:Exit->Act->World->Prop} {v:Value} {d:Nat}
theorem Rd.acr {e:TypeId} {s n c:Nat} {A:Option Addr} {xs:List Value} (h:nS w B e s A n c xs):Rd w w.heap.size s A n xs:=by
 obtain ⟨h1,h2,h3,⟨rfl,h4⟩ | ⟨g,o,cur,rfl,h4,h5,h6,h7⟩⟩:=h
 ·exact ⟨h1,λhn=>absurd hn oQ⟩
 refine ⟨h1,λ_=>⟨g,o,rfl,(Array.getElem?_eq_some_iff.1 h5).1,λj u hu=>?_⟩⟩;rw [<-h7] at hu;have hj:j<n*s:=by
  have:=(List.getElem?_eq_some_iff.1 hu).1;rw [List.length_take] at this;omega
 rw [List.getElem?_take_of_lt hj,List.getElem?_drop] at hu;rw [cell_of_row w g (o+j) _ e (0,0) h5];simpa using hu
theorem nS.wR (w:World) (B:Nat) (e:TypeId) (s:Nat):nS w B e s none 0 0 []:=⟨by simp,Nat.le_refl _,Nat.zero_le _,.inl ⟨rfl,rfl⟩⟩
theorem nS.tF {e:TypeId} {s n c:Nat} {A:Option Addr} {xs:List Value} (h:w.ownsRow B e s (.slice A n c) n xs):nS w B e s A n c xs:=by
 obtain ⟨h1,⟨h2,rfl⟩ | ⟨g,cap,cur,hv,hg,hh,hnc,hcm,hsz,htk⟩⟩:=h
 ·injection h2 with a b c'
  subst a;subst c';exact ⟨h1,Nat.le_refl _,Nat.zero_le _,.inl ⟨rfl,rfl⟩⟩
 injection hv with a b c'
 subst a;subst c';exact ⟨h1,hnc,hcm,.inr ⟨g,0,cur,rfl,hg,hh,by omega,by simpa using htk⟩⟩
theorem nS.cut {e:TypeId} {s n c k:Nat} {A:Option Addr} {xs:List Value} (h:nS w B e s A n c xs) (hk:k<=n):nS w B e s (if c=k then A else A.map (·.add (k*s))) (n-k) (c-k) (xs.drop (k*s)):=by
 obtain ⟨h1,h2,h3,h4⟩:=h;refine ⟨by rw [List.length_drop,h1,Nat.sub_mul],by omega,by omega,?_⟩
 rcases h4 with ⟨rfl,h4⟩ | ⟨g,o,cur,rfl,h4,h5,h6,h7⟩
 ·exact .inl ⟨by split<;>rfl,by omega⟩
 refine .inr ?_;by_cases hc:c=k
 ·rw [if_pos hc];have hn:n=k:=oQ;refine ⟨g,o,cur,rfl,h4,h5,by rw [show c-k=0 by omega];omega,?_⟩;rw [show n-k=0 by omega,Nat.zero_mul,List.take_zero,<-h7,hn,List.drop_take,Nat.sub_self,List.take_zero]
 rw [if_neg hc];refine ⟨g,o+k*s,cur,by simp [Addr.add],h4,h5,?_,?_⟩
 ·have:k*s+(c-k)*s=c*s:=by rw [<-Nat.add_mul];congr 1;omega
  omega
 rw [<-h7,List.drop_take,List.drop_drop,<-Nat.sub_mul]
theorem KU (w:World) (B:Nat) (t ty e:TypeId) (i:TypeInfo) (z:Value) (size bytes:Nat) (ht:P.underlying t=some (.slice e)) (hi:P.info? e=some i) (hz:i.zero=some z)
    (hsize:i.size=size) (hby:i.bytes=bytes) (hzs:z.cells.size=size) (hsz:0<size) (A:Option Addr) (n c:Nat) (xs:List Value) (hown:nS w B e size A n c xs)
    (a:Addr) (m c2:Nat) (news:List Value) (hl:news.length=m*size) (hnews: ∀ j u,news[j]? =some u->w.cell? (a.add j)=some u) (h1: ∀ u∈news,u.oneCell'=true)
    (h63:n+m<=maxLen) (hbytes:(n+m)*bytes<=140737488355328) (hbase:B<=w.heap.size) (hm:0<m):
    ∃ A' c' w',(Builtin.append_ #[t,t] ty #[.slice A n c,.slice (some a) m c2]).run P w= .ok (.slice A' (n+m) c') w'/\nS w' B e size A' (n+m) c' (xs++news)/\w.grownBy w' (A.map (·.block))/\
      (A'.map (·.block)=A.map (·.block)\/A'.map (·.block)=some w.heap.size):=by
  subst hsize;subst hby;have hsmall:n+m<=9223372036854775807:=by simp only [maxLen] at h63;omega
  have hrd:=Rd.acr hown;obtain ⟨hx1,hx2,hx3,hx4⟩:=hown;have hlen:(xs++news).length=(n+m)*i.size:=by rw [List.length_append,hx1,hl,Nat.add_mul]
  have grown: ∀ (old:Nat),old<n+m-> ∀ (row:Option Nat),
      nS (w.drew.alloc (.cells (xs.toArray++news.toArray++Builtin.zeroCells z.cells (grownCap w (n+m) old e-(n+m))) e)) B e i.size (some ⟨w.heap.size,0,none⟩) (n+m) (grownCap w (n+m) old e) (xs++news)/\
      w.grownBy (w.drew.alloc (.cells (xs.toArray++news.toArray++Builtin.zeroCells z.cells (grownCap w (n+m) old e-(n+m))) e)) row:=by
    intro old ho row;have hge:=grownCap_ge w (n+m) old e;have hcm:grownCap w (n+m) old e<=maxLen:=grownCap_le_maxLen w (n+m) old e h63;refine ⟨⟨hlen,hge,hcm,.inr ⟨w.heap.size,0,_,rfl,hbase,heap_alloc_new w.drew _,?_,?_⟩⟩,⟨rfl,rfl,rfl,by simp,λk hk _=>heap_alloc_old w.drew _ hk⟩⟩
    · simp only [Array.size_append,List.size_toArray,size_zeroCells,hzs,hx1,hl,<-Nat.add_mul]
      rw [Nat.zero_add];refine Nat.mul_le_mul_right _ ?_;omega
    · simp only [Array.toList_append,List.append_assoc,List.drop_zero]
      rw [<-List.append_assoc,<-hlen];exact List.take_left
  rcases hx4 with ⟨rfl,rfl⟩ | ⟨g,of,cur,rfl,hg,hh,hcs,htake⟩
  · have hn0:n=0:=oQ
    subst hn0;have hx:xs=[]:=List.eq_nil_of_length_eq_zero (by simpa using hx1);subst hx;have hr:=run_append_nil (P:=P) w t ty e i z ht hi hz a m c2 news hl hnews oQ oQ (by have hb:=hbytes;simp only [Nat.zero_add] at hb;omega);have hgr:=grown 0 oQ none;simp only [Nat.zero_add,List.nil_append,Array.empty_append] at hgr⊢;exact ⟨_,_,_,hr,hgr.1,hgr.2,Or.inr rfl⟩
  · by_cases hroom:n+m<=c
    · have hle:(n+m)*i.size<=c*i.size:=Nat.mul_le_mul_right _ hroom
      have hfit:of+n*i.size+news.length<=cur.size:=by rw [hl,Nat.add_assoc,<-Nat.add_mul];omega
      have hb:fK w g cur e:=⟨hh⟩;have hr:=run_append_room_cells (P:=P) (w:=w) t ty e i ht hi g of n c a m c2 news hl hnews h1 hroom
        (λj hj=>by rw [hb.cell (k:=of+n*i.size+j) (Array.getElem?_eq_getElem oQ)];rfl) (λj _=>hb.free _)
      have hb':=jg news (of+n*i.size) hb;refine ⟨_,_,_,hr,⟨hlen,hroom,hx3,.inr ⟨g,of,_,rfl,hg,hb'.blk,by rw [ni];exact hcs,?_⟩⟩,?_,Or.inl rfl⟩
      · rw [iq _ _ _ hfit,<-hlen]
        have e1:(cur.toList.take (of+n*i.size)).drop of=xs:=by rw [<-htake,List.drop_take];congr 1;omega
        have e2:of<=(cur.toList.take (of+n*i.size)).length:=by rw [List.length_take,Array.length_toList];omega
        rw [List.append_assoc,List.drop_append_of_le_length e2,e1,<-List.append_assoc];exact List.take_left
      · have hu:=jh g news (of+n*i.size) w
        exact ⟨hu.os,hu.tape,hu.output,Nat.le_of_eq hu.size.symm,λk _ hk=>hu.block k (λe=>hk (by simp [e]))⟩
    · have hr:=run_append_grow (P:=P) w t ty e i z ht hi hz ⟨g,of,none⟩ n c xs hx1 (λj u hu=>by
          have hj:j<n*i.size:=by have:=(List.getElem?_eq_some_iff.1 hu).1;omega
          obtain ⟨b,off,e1,_,hc⟩:=hrd.2 (Nat.pos_of_ne_zero λh0=>by subst h0;omega)
          injection e1 with e1
          injection e1 with e1 e2
          subst e1;subst e2;rw [Go.WideShapes.add_plain];exact hc j u hu) a m c2 news hl hnews oQ oQ (growslice_fits oQ hbytes)
      have hgr:=grown c oQ (some g);exact ⟨_,_,_,hr,hgr.1,hgr.2,Or.inr rfl⟩
theorem St.has {f:Fact} (S:St B w0 w fs) (h:f∈fs):f.holds B w:=by
 obtain ⟨i,hi⟩:=List.mem_iff_getElem?.1 h;exact S.all i f hi
theorem St.hblk {b:Nat} {row:Array Value} {t:TypeId} (S:St B w0 w fs) (h:Fact.blk b row t∈fs):fK w b row t:=(S.has h).2
def Fact.apart (f g:Fact):Prop:= ∀ k,f.foot=some k->g.foot≠some k
theorem Fact.apart.symm {f g:Fact} (h:f.apart g):g.apart f:=λk h1 h2=>h k h2 h1
theorem St.iff:St B w0 w fs↔Below B w0 w/\B<=w.heap.size/\(∀ f∈fs,f.holds B w)/\fs.Pairwise Fact.apart:=by
 constructor
 ·intro S;refine ⟨S.low,S.base,λf hf=>S.has hf,List.pairwise_iff_getElem.2 λi j hi hj hij=>?_⟩;exact S.sep i j _ _ oQ (List.getElem?_eq_getElem hi) (List.getElem?_eq_getElem hj)
 rintro ⟨h1,h2,h3,h4⟩;refine ⟨h1,h2,λi f hf=>h3 f (List.mem_of_getElem? hf),λi j f g hij hi hj=>?_⟩;obtain ⟨hi1,rfl⟩:=List.getElem?_eq_some_iff.1 hi;obtain ⟨hj1,rfl⟩:=List.getElem?_eq_some_iff.1 hj
 rcases Nat.lt_or_gt_of_ne hij with h | h
 ·exact List.pairwise_iff_getElem.1 h4 i j hi1 hj1 h
 exact (List.pairwise_iff_getElem.1 h4 j i hj1 hi1 h).symm
theorem St.perm {gs:List Fact} (S:St B w0 w fs) (h:fs.Perm gs):St B w0 w gs:=by
 obtain ⟨h1,h2,h3,h4⟩:=St.iff.1 S;exact St.iff.2 ⟨h1,h2,λf hf=>h3 f (h.mem_iff.2 hf),(h.pairwise_iff λh=>h.symm).1 h4⟩
theorem St.sub {gs:List Fact} (S:St B w0 w fs) (h:gs.Sublist fs):St B w0 w gs:=by
 obtain ⟨h1,h2,h3,h4⟩:=St.iff.1 S;exact St.iff.2 ⟨h1,h2,λf hf=>h3 f (h.mem hf),h4.sublist h⟩
theorem St.abW {e:TypeId} {s n c:Nat} {A:Option Addr} {xs:List Value} (i:Nat) (S:St B w0 w fs) (hi:fs[i]? =some (.off e s A n c xs)):nS w B e s A n c xs:=S.all i _ hi
theorem St.atz {e:TypeId} {s n c:Nat} {A:Option Addr} {xs:List Value} (i:Nat) (S:St B w0 w fs) (hi:fs[i]? =some (.off e s A n c xs)):Rd w w.heap.size s A n xs:=Rd.acr (S.abW i hi)
theorem St.an9 {e:TypeId} {s n c:Nat} {A:Option Addr} {xs:List Value} (i k:Nat) (S:St B w0 w fs) (hi:fs[i]? =some (.off e s A n c xs)) (hk:k<=n):
  St B w0 w (fs.set i (.off e s (if c=k then A else A.map (·.add (k*s))) (n-k) (c-k) (xs.drop (k*s)))):=by
 refine S.turn i hi S.low (Nat.le_refl _) (λ_ _ _=>rfl) ((S.abW i hi).cut hk) λk' hk'=> .inl ?_
 cases A with
 | none=>split at hk'<;>cases hk'
 | some a=>
  show some a.block=some k'
  split at hk'
  ·exact hk'
  have:(a.add (k*s)).block=a.block:=by unfold Addr.add;split<;>rfl
  rw [<-this];exact hk'
theorem St.aoa {e:TypeId} {s n c n' c':Nat} {A A':Option Addr} {xs xs':List Value} (i:Nat) (S:St B w0 w fs) (hi:fs[i]? =some (.off e s A n c xs)) (hg:w.grownBy w' (A.map (·.block))) (ho:nS w' B e s A' n' c' xs')
  (hat:A'.map (·.block)=A.map (·.block)\/A'.map (·.block)=some w.heap.size):St B w0 w' (fs.set i (.off e s A' n' c' xs')):=by
 have h:=S.all i _ hi;refine S.turn i hi (S.low.grown hg S.base (λk hk=>(Fact.mK h hk).1)) hg.size (λk hk hne=>hg.block k hk (λe=>hne e.symm)) ho (λk hk=>?_);have hk':A'.map (·.block)=some k:=hk
 rcases hat with h1 | h1
 ·exact .inl (by rw [<-hk',h1];rfl)
 rw [hk'] at h1
 cases h1;exact .inr (Nat.le_refl _)
theorem St.BO (S:St B w0 w fs) (e:TypeId) (s:Nat):St B w0 w (.off e s none 0 0 []::fs):=S.cons (nS.wR w B e s) λk hk=>by cases hk
end
section
variable {P:Program} {N:Nat} {l:Slots} {w w' w0:World} {B m n i:Nat} {fs fs':List Fact} {ops:Array Oper} {o:Oper} {rest:List Oper} {Q:Exit->Act->World->Prop} {C:World->Prop} {listed listed':Array Bool} {v:Value} {d:Nat}
theorem YI {x y:Operand} {t e:TypeId} {z:Value} {size bytes k q c c0 Br:Nat} {A0 A:Option Addr} {xs news xs':List Value} (hi':ops[i]? =some o) (hl:listed.setIfInBounds i true=listed') (j:Nat) (S:St B w0 w fs) (hw:Wanted N ops l o true) (hd:o.dst=some d) (hN:Nat.blt d N=true)
  (ho:o.op= .call { callee:= .builtin .append,args:= #[x,y],argTypes:= #[t,t] }) (hx:ev l x=some (.slice A0 k c0)) (hy:ev l y=some (.slice A q c)) (hi:fs[j]? =some (.off e size A0 k c0 xs)) (hr:Rd w Br size A q news) (hq:0<q)
  (ht:P.underlying t=some (.slice e)) (Qf:(P.info? e).map (λi=>(i.zero,i.size,i.bytes))=some (some z,size,bytes)) (hzs:z.cells.size=size) (hsz:0<size) (h1: ∀ u∈news,u.oneCell'=true) (h63:k+q<=maxLen) (hbytes:(k+q)*bytes<=140737488355328)
  (hxs:xs++news=xs') (h: ∀ A' c' w',St B w0 w' (fs.set j (.off e size A' (k+q) c' xs'))->C w'/\wG P N ops Q C n m listed' ((d,.slice A' (k+q) c')::l) w'):wH P N ops Q C n m i listed l w:=by
 subst hxs;obtain ⟨j0,hj0,hz,hs,hb⟩:=info_parts Qf;obtain ⟨bb,oo,rfl,_,hc⟩:=hr.2 hq;obtain ⟨A',c',w',hrun,h2,h3,h4⟩:=KU (P:=P) w B t o.type e j0 z size bytes ht hj0 hz hs hb hzs hsz A0 k c0 xs (S.abW j hi) ⟨bb,oo,none⟩ q c news hr.1 (λa u hu=>by rw [Go.WideShapes.add_plain];exact hc a u hu) h1 h63 hbytes S.base hq;exact abT hi' hl hw hd hN (AY (xs:=[x,y]) (vs:=[.slice A0 k c0,.slice (some ⟨bb,oo,none⟩) q c]) ho ⟨hx,hy,trivial⟩ (λcs=>by simp [builtin,hrun,Sem.run_bind,Result.andThen])) (h A' c' w' (S.aoa j hi h3 h2 h4))
end
end
section
open ChangeShapes WideShapes RowKit
theorem CQ {P:Program} (w:World) (t e ty:TypeId) (z:Value) (ht:P.underlying t=some (.slice e)) (hv: ∀ w,(zeroValue e).run P w= .ok z w) (hz:0<z.cells.size) (h1: ∀ u∈z.cells.toList,u.oneCell'=true) (b o c:Nat)
  (hc: ∀ j,j<z.cells.size->(w.cell? ⟨b,o+j,none⟩).isSome=true) (hf: ∀ j,j<z.cells.size->w.frozen? ⟨b,o+j,none⟩=false):
  (Builtin.clear_ #[t] ty #[.slice (some ⟨b,o,none⟩) 1 c]).run P w= .ok (.tuple #[]) (w.setCells b o z.cells.toList):=by
 have hzc:(Builtin.zeroCells z.cells 1).toList=z.cells.toList:=by
  simp [Builtin.zeroCells];apply List.ext_getElem
  ·simp
  intro i h1 h2;simp at h1;simp [Nat.mod_eq_of_lt h1,getElem!_pos z.cells i h1]
 have hst:=run_storeCells_cells (P:=P) b o z.cells.toList 0 w (by simpa using hc) (by simpa using hf) h1;simp only [Nat.add_zero] at hst;simp [Builtin.clear_,run_underlying ht,hv,hzc,hst]
theorem R7 (g n c i base:Nat) (xs:List Value) (w:World) (ho:w.ownsRow base 276 4 (.slice (some ⟨g,0,none⟩) n c) n xs) (h1: ∀ u∈xs,u.oneCell'=true) (hi:i<n):
  Calls Tryz.prog 176 #[.slice (some ⟨g,0,none⟩) n c,.int .i64 i,.int .i64 ((i:Int)+1)] w λe w'=>e= .returned (.slice (some ⟨g,0,none⟩) (n-1) c)/\tT w g w'/\w'.ownsRow base 276 4 (.slice (some ⟨g,0,none⟩) (n-1) c) (n-1) (xs.take (i*4)++xs.drop ((i+1)*4)):=by
 obtain ⟨hxl,hx2⟩:=ho
 rcases hx2 with ⟨hx2,_⟩ | ⟨g',cap,cur,hv,hg,hh,hnc,hcm,hsz,htk⟩
 ·cases hx2
 have hv':g=g'/\c=cap:=by
  simp only [Value.slice.injEq,Option.some.injEq,Addr.mk.injEq] at hv;exact ⟨hv.1.1,hv.2.2⟩
 obtain ⟨rfl,rfl⟩:=hv';clear hv;unfold maxLen at hcm;obtain ⟨j0,hj0,QD,QE,QF⟩:=info_parts (show (Tryz.prog.info? 276).map (λi=>(i.zero,i.size,i.bytes))=some (some (Value.agg #[.int .i64 0,.int .i64 0,.int .i64 0,.int .i64 0]),4,32) by kernel_rfl);have hzv: ∀ w,(zeroValue 276).run Tryz.prog w= .ok (.agg #[.int .i64 0,.int .i64 0,.int .i64 0,.int .i64 0]) w:=Tryz.zeroValue276;have B0:fK w g cur 276:=⟨hh⟩;obtain ⟨news,hnews⟩: ∃ news,news=xs.drop ((i+1)*4):=⟨_,rfl⟩;have hlen:news.length=(n-(i+1))*4:=by rw [hnews,List.length_drop,hxl,Nat.sub_mul]
 have hcx: ∀ (j:Nat) (u:Value),xs[j]? =some u->cur[j]? =some u:=by
  intro j u hu;have hj:j<n*4:=by have:=(List.getElem?_eq_some_iff.1 hu).1;omega
  rw [<-htk,List.getElem?_take_of_lt hj] at hu;simpa using hu
 obtain ⟨A,hA,hsrc⟩: ∃ A:Addr,(if c=i+1 then some (⟨g,0,none⟩:Addr) else some ⟨g,(i+1)*4,none⟩)=some A/\Hid (∀ (t:Nat) (u:Value),news[t]? =some u->w.drew.cell? (A.add t)=some u):=by
  by_cases h:c=i+1
  ·refine ⟨⟨g,0,none⟩,by simp [h],λt u hu=>?_⟩;have h0:news.length=0:=by rw [hlen];omega
   rw [List.length_eq_zero_iff.1 h0] at hu;simp at hu
  refine ⟨⟨g,(i+1)*4,none⟩,by simp [h],λt u hu=>?_⟩;rw [hnews,List.getElem?_drop] at hu;rw [Go.WideShapes.add_plain];exact B0.drew.cell (hcx _ _ hu)
 have s1:Hid (news.length=(n-(i+1))*4):=hlen;have s2:Hid (∀ u∈news,u.oneCell'=true):=λu hu=>h1 u (List.mem_of_mem_drop (by rw [hnews] at hu;exact hu));have s3:Hid (∀ t,t<news.length->(w.drew.cell? ⟨g,0+i*4+t,none⟩).isSome=true/\w.drew.frozen? ⟨g,0+i*4+t,none⟩=false):=by
  intro t ht;rw [hlen] at ht;have hb:0+i*4+t<cur.size:=by rw [hsz];omega
  exact ⟨by rw [B0.drew.cell (Array.getElem?_eq_getElem hb)];rfl,B0.drew.free _⟩
 have B1:=jg news (0+i*4) B0.drew;have hs1:(cB cur (0+i*4) news).size=c*4:=by rw [ni,hsz]
 have hcl:Hid (∀ ty,(Builtin.clear_ #[218] ty #[.slice (some ⟨g,(i+(n-(i+1)))*4,none⟩) (n-(i+(n-(i+1)))) (c-(i+(n-(i+1))))]).run Tryz.prog (w.drew.setCells g (0+i*4) news)= .ok (.tuple #[]) ((w.drew.setCells g (0+i*4) news).setCells g ((i+(n-(i+1)))*4) (#[.int .i64 0,.int .i64 0,.int .i64 0,.int .i64 0]:Array Value).toList)):=by
  intro ty;rw [show n-(i+(n-(i+1)))=1 by omega];refine CQ _ _ 276 ty (.agg #[.int .i64 0,.int .i64 0,.int .i64 0,.int .i64 0]) Tryz.underlying218 hzv (by simp [Value.cells]) (by simp [Value.cells,Value.oneCell']) g _ _ (λj hj=>?_) (λj hj=>B1.free _);have hj':j<4:=by simpa [Value.cells] using hj
  have hb:(i+(n-(i+1)))*4+j< (cB cur (0+i*4) news).size:=by rw [hs1];omega
  rw [B1.cell (Array.getElem?_eq_getElem hb)];rfl
 have U:tT w g ((w.drew.setCells g (0+i*4) news).setCells g ((i+(n-(i+1)))*4) (#[.int .i64 0,.int .i64 0,.int .i64 0,.int .i64 0]:Array Value).toList):=(FC w g).trans ((jh g _ _ _).trans (jh g _ _ _));have B2:=jg (#[.int .i64 0,.int .i64 0,.int .i64 0,.int .i64 0]:Array Value).toList ((i+(n-(i+1)))*4) B1;have hl2:(#[.int .i64 0,.int .i64 0,.int .i64 0,.int .i64 0]:Array Value).toList.length=4:=rfl;have hfin:(cB (cB cur (0+i*4) news) ((i+(n-(i+1)))*4) (#[.int .i64 0,.int .i64 0,.int .i64 0,.int .i64 0]:Array Value).toList).toList.take ((n-1)*4)=xs.take (i*4)++news:=by
  rw [iq _ _ _ (by rw [hs1,hl2];omega),iq _ _ _ (by rw [hlen,hsz];omega)];have e1:(n-1)*4=(i+(n-(i+1)))*4:=by congr 1;omega
  have a1:(cur.toList.take (0+i*4)).length=i*4:=by simp [hsz];omega
  rw [e1,List.append_assoc,List.take_append_of_le_length (by simp [hlen,hsz];omega),List.take_take,Nat.min_self];rw [List.take_append_of_le_length (by simp [hlen,hsz];omega),List.take_of_length_le (by simp [hlen,hsz];omega)]
  congr 1
  rw [<-htk,List.take_take,Nat.zero_add,Nat.min_eq_left oQ]
 have HF:Hid (((w.drew.setCells g (0+i*4) news).setCells g ((i+(n-(i+1)))*4) (#[.int .i64 0,.int .i64 0,.int .i64 0,.int .i64 0]:Array Value).toList).ownsRow base 276 4 (.slice (some ⟨g,0,none⟩) (n-1) c) (n-1) (xs.take (i*4)++news)):=by
  refine ⟨by rw [List.length_append,List.length_take,hlen,hxl];omega,.inr ⟨g,c,_,rfl,hg,B2.blk,by omega,hcm,by rw [ni,hs1],hfin⟩⟩
 rw [<-hnews];have HU:=Lib.hid U;clear hnews hlen hcx B0 B1 B2 hs1 hfin U hl2 hh hsz htk hxl h1 hg QD QF hzv;have hic:i<=c:=oQ;have hjc:i+1<=c:=oQ;have t1:((i:Int)==(i:Int)+1)=false:=by rw [beq_eq_false_iff_ne];omega
 have t2:0<=(i:Int)+1:=oQ;have t3:(i:Int)+1<=(n:Int):=oQ;obtain ⟨W1,hW⟩: ∃ W1,Hid (W1=w.drew.setCells g (0+i*4) news):=⟨_,Lib.hid rfl⟩;rw [<-hW.out] at hcl HF HU;generalize hZ:(#[.int .i64 0,.int .i64 0,.int .i64 0,.int .i64 0]:Array Value).toList=zs at hcl HF HU;clear hZ;have hcl:=hcl.out
 go_enter Tryz.func176,Tryz.ntmps176
 go_wp2_with fail
 go_region_law (refine step_append_room rfl (.tmp 22) (.tmp 25) 218 rfl 276 j0 4 Tryz.underlying218 hj0 QE g 0 i c (by simp [Act.eval,Act.put]) A (n-(i+1)) (c-(i+1)) news (by simp [Act.eval,Act.put]) s1.out hsrc.out s2.out oQ s3.out ?_;rw [<-hW.out])
 go_wp2_with fail
 go_ret
 refine ⟨?_,HU.out,HF.out⟩;simp;omega
theorem R8 (g n c i base:Nat) (xs:List Value) (w:World) (ho:w.ownsRow base 125 23 (.slice (some ⟨g,0,none⟩) n c) n xs) (h1: ∀ u∈xs,u.oneCell'=true) (hi:i<n):
  Calls Tryz.prog 70 #[.slice (some ⟨g,0,none⟩) n c,.int .i64 i,.int .i64 ((i:Int)+1)] w λe w'=>e= .returned (.slice (some ⟨g,0,none⟩) (n-1) c)/\tT w g w'/\w'.ownsRow base 125 23 (.slice (some ⟨g,0,none⟩) (n-1) c) (n-1) (xs.take (i*23)++xs.drop ((i+1)*23)):=by
 obtain ⟨hxl,hx2⟩:=ho
 rcases hx2 with ⟨hx2,_⟩ | ⟨g',cap,cur,hv,hg,hh,hnc,hcm,hsz,htk⟩
 ·cases hx2
 have hv':g=g'/\c=cap:=by
  simp only [Value.slice.injEq,Option.some.injEq,Addr.mk.injEq] at hv;exact ⟨hv.1.1,hv.2.2⟩
 obtain ⟨rfl,rfl⟩:=hv';clear hv;unfold maxLen at hcm;obtain ⟨j0,hj0,QD,QE,QF⟩:=info_parts (show (Tryz.prog.info? 125).map (λi=>(i.zero,i.size,i.bytes))=some (some (Value.agg #[.int .i64 0,.int .i64 0,.int .i64 0,.int .i64 0,.int .i64 0,.int .i64 0,.int .i64 0,.int .i64 0,.int .i64 0,.int .i64 0,.int .i64 0,.int .i64 0,.int .i64 0,.slice none 0 0,.bool false,.int .i64 0,.int .i64 0,.int .i64 0,.int .i64 0,.int .i64 0,.int .i64 0,.int .i64 0,.int .i64 0]),23,200) by kernel_rfl);have hzv: ∀ w,(zeroValue 125).run Tryz.prog w= .ok (.agg #[.int .i64 0,.int .i64 0,.int .i64 0,.int .i64 0,.int .i64 0,.int .i64 0,.int .i64 0,.int .i64 0,.int .i64 0,.int .i64 0,.int .i64 0,.int .i64 0,.int .i64 0,.slice none 0 0,.bool false,.int .i64 0,.int .i64 0,.int .i64 0,.int .i64 0,.int .i64 0,.int .i64 0,.int .i64 0,.int .i64 0]) w:=Tryz.zeroValue125;have B0:fK w g cur 125:=⟨hh⟩;obtain ⟨news,hnews⟩: ∃ news,news=xs.drop ((i+1)*23):=⟨_,rfl⟩;have hlen:news.length=(n-(i+1))*23:=by rw [hnews,List.length_drop,hxl,Nat.sub_mul]
 have hcx: ∀ (j:Nat) (u:Value),xs[j]? =some u->cur[j]? =some u:=by
  intro j u hu;have hj:j<n*23:=by have:=(List.getElem?_eq_some_iff.1 hu).1;omega
  rw [<-htk,List.getElem?_take_of_lt hj] at hu;simpa using hu
 obtain ⟨A,hA,hsrc⟩: ∃ A:Addr,(if c=i+1 then some (⟨g,0,none⟩:Addr) else some ⟨g,(i+1)*23,none⟩)=some A/\Hid (∀ (t:Nat) (u:Value),news[t]? =some u->w.drew.cell? (A.add t)=some u):=by
  by_cases h:c=i+1
  ·refine ⟨⟨g,0,none⟩,by simp [h],λt u hu=>?_⟩;have h0:news.length=0:=by rw [hlen];omega
   rw [List.length_eq_zero_iff.1 h0] at hu;simp at hu
  refine ⟨⟨g,(i+1)*23,none⟩,by simp [h],λt u hu=>?_⟩;rw [hnews,List.getElem?_drop] at hu;rw [Go.WideShapes.add_plain];exact B0.drew.cell (hcx _ _ hu)
 have s1:Hid (news.length=(n-(i+1))*23):=hlen;have s2:Hid (∀ u∈news,u.oneCell'=true):=λu hu=>h1 u (List.mem_of_mem_drop (by rw [hnews] at hu;exact hu));have s3:Hid (∀ t,t<news.length->(w.drew.cell? ⟨g,0+i*23+t,none⟩).isSome=true/\w.drew.frozen? ⟨g,0+i*23+t,none⟩=false):=by
  intro t ht;rw [hlen] at ht;have hb:0+i*23+t<cur.size:=by rw [hsz];omega
  exact ⟨by rw [B0.drew.cell (Array.getElem?_eq_getElem hb)];rfl,B0.drew.free _⟩
 have B1:=jg news (0+i*23) B0.drew;have hs1:(cB cur (0+i*23) news).size=c*23:=by rw [ni,hsz]
 have hcl:Hid (∀ ty,(Builtin.clear_ #[97] ty #[.slice (some ⟨g,(i+(n-(i+1)))*23,none⟩) (n-(i+(n-(i+1)))) (c-(i+(n-(i+1))))]).run Tryz.prog (w.drew.setCells g (0+i*23) news)= .ok (.tuple #[]) ((w.drew.setCells g (0+i*23) news).setCells g ((i+(n-(i+1)))*23) (#[.int .i64 0,.int .i64 0,.int .i64 0,.int .i64 0,.int .i64 0,.int .i64 0,.int .i64 0,.int .i64 0,.int .i64 0,.int .i64 0,.int .i64 0,.int .i64 0,.int .i64 0,.slice none 0 0,.bool false,.int .i64 0,.int .i64 0,.int .i64 0,.int .i64 0,.int .i64 0,.int .i64 0,.int .i64 0,.int .i64 0]:Array Value).toList)):=by
  intro ty;rw [show n-(i+(n-(i+1)))=1 by omega];refine CQ _ _ 125 ty (.agg #[.int .i64 0,.int .i64 0,.int .i64 0,.int .i64 0,.int .i64 0,.int .i64 0,.int .i64 0,.int .i64 0,.int .i64 0,.int .i64 0,.int .i64 0,.int .i64 0,.int .i64 0,.slice none 0 0,.bool false,.int .i64 0,.int .i64 0,.int .i64 0,.int .i64 0,.int .i64 0,.int .i64 0,.int .i64 0,.int .i64 0]) Tryz.underlying97 hzv (by simp [Value.cells]) (by simp [Value.cells,Value.oneCell']) g _ _ (λj hj=>?_) (λj hj=>B1.free _);have hj':j<23:=by simpa [Value.cells] using hj
  have hb:(i+(n-(i+1)))*23+j< (cB cur (0+i*23) news).size:=by rw [hs1];omega
  rw [B1.cell (Array.getElem?_eq_getElem hb)];rfl
 have U:tT w g ((w.drew.setCells g (0+i*23) news).setCells g ((i+(n-(i+1)))*23) (#[.int .i64 0,.int .i64 0,.int .i64 0,.int .i64 0,.int .i64 0,.int .i64 0,.int .i64 0,.int .i64 0,.int .i64 0,.int .i64 0,.int .i64 0,.int .i64 0,.int .i64 0,.slice none 0 0,.bool false,.int .i64 0,.int .i64 0,.int .i64 0,.int .i64 0,.int .i64 0,.int .i64 0,.int .i64 0,.int .i64 0]:Array Value).toList):=(FC w g).trans ((jh g _ _ _).trans (jh g _ _ _));have B2:=jg (#[.int .i64 0,.int .i64 0,.int .i64 0,.int .i64 0,.int .i64 0,.int .i64 0,.int .i64 0,.int .i64 0,.int .i64 0,.int .i64 0,.int .i64 0,.int .i64 0,.int .i64 0,.slice none 0 0,.bool false,.int .i64 0,.int .i64 0,.int .i64 0,.int .i64 0,.int .i64 0,.int .i64 0,.int .i64 0,.int .i64 0]:Array Value).toList ((i+(n-(i+1)))*23) B1;have hl2:(#[.int .i64 0,.int .i64 0,.int .i64 0,.int .i64 0,.int .i64 0,.int .i64 0,.int .i64 0,.int .i64 0,.int .i64 0,.int .i64 0,.int .i64 0,.int .i64 0,.int .i64 0,.slice none 0 0,.bool false,.int .i64 0,.int .i64 0,.int .i64 0,.int .i64 0,.int .i64 0,.int .i64 0,.int .i64 0,.int .i64 0]:Array Value).toList.length=23:=rfl;have hfin:(cB (cB cur (0+i*23) news) ((i+(n-(i+1)))*23) (#[.int .i64 0,.int .i64 0,.int .i64 0,.int .i64 0,.int .i64 0,.int .i64 0,.int .i64 0,.int .i64 0,.int .i64 0,.int .i64 0,.int .i64 0,.int .i64 0,.int .i64 0,.slice none 0 0,.bool false,.int .i64 0,.int .i64 0,.int .i64 0,.int .i64 0,.int .i64 0,.int .i64 0,.int .i64 0,.int .i64 0]:Array Value).toList).toList.take ((n-1)*23)=xs.take (i*23)++news:=by
  rw [iq _ _ _ (by rw [hs1,hl2];omega),iq _ _ _ (by rw [hlen,hsz];omega)];have e1:(n-1)*23=(i+(n-(i+1)))*23:=by congr 1;omega
  have a1:(cur.toList.take (0+i*23)).length=i*23:=by simp [hsz];omega
  rw [e1,List.append_assoc,List.take_append_of_le_length (by simp [hlen,hsz];omega),List.take_take,Nat.min_self];rw [List.take_append_of_le_length (by simp [hlen,hsz];omega),List.take_of_length_le (by simp [hlen,hsz];omega)]
  congr 1
  rw [<-htk,List.take_take,Nat.zero_add,Nat.min_eq_left oQ]
 have HF:Hid (((w.drew.setCells g (0+i*23) news).setCells g ((i+(n-(i+1)))*23) (#[.int .i64 0,.int .i64 0,.int .i64 0,.int .i64 0,.int .i64 0,.int .i64 0,.int .i64 0,.int .i64 0,.int .i64 0,.int .i64 0,.int .i64 0,.int .i64 0,.int .i64 0,.slice none 0 0,.bool false,.int .i64 0,.int .i64 0,.int .i64 0,.int .i64 0,.int .i64 0,.int .i64 0,.int .i64 0,.int .i64 0]:Array Value).toList).ownsRow base 125 23 (.slice (some ⟨g,0,none⟩) (n-1) c) (n-1) (xs.take (i*23)++news)):=by
  refine ⟨by rw [List.length_append,List.length_take,hlen,hxl];omega,.inr ⟨g,c,_,rfl,hg,B2.blk,by omega,hcm,by rw [ni,hs1],hfin⟩⟩
 rw [<-hnews];have HU:=Lib.hid U;clear hnews hlen hcx B0 B1 B2 hs1 hfin U hl2 hh hsz htk hxl h1 hg QD QF hzv;have hic:i<=c:=oQ;have hjc:i+1<=c:=oQ;have t1:((i:Int)==(i:Int)+1)=false:=by rw [beq_eq_false_iff_ne];omega
 have t2:0<=(i:Int)+1:=oQ;have t3:(i:Int)+1<=(n:Int):=oQ;obtain ⟨W1,hW⟩: ∃ W1,Hid (W1=w.drew.setCells g (0+i*23) news):=⟨_,Lib.hid rfl⟩;rw [<-hW.out] at hcl HF HU;generalize hZ:(#[.int .i64 0,.int .i64 0,.int .i64 0,.int .i64 0,.int .i64 0,.int .i64 0,.int .i64 0,.int .i64 0,.int .i64 0,.int .i64 0,.int .i64 0,.int .i64 0,.int .i64 0,.slice none 0 0,.bool false,.int .i64 0,.int .i64 0,.int .i64 0,.int .i64 0,.int .i64 0,.int .i64 0,.int .i64 0,.int .i64 0]:Array Value).toList=zs at hcl HF HU;clear hZ;have hcl:=hcl.out
 go_enter Tryz.func70,Tryz.ntmps70
 go_wp2_with fail
 go_region_law (refine step_append_room rfl (.tmp 22) (.tmp 25) 97 rfl 125 j0 23 Tryz.underlying97 hj0 QE g 0 i c (by simp [Act.eval,Act.put]) A (n-(i+1)) (c-(i+1)) news (by simp [Act.eval,Act.put]) s1.out hsrc.out s2.out oQ s3.out ?_;rw [<-hW.out])
 go_wp2_with fail
 go_ret
 refine ⟨?_,HU.out,HF.out⟩;simp;omega
theorem R9: ∀ {v:Value} {s:Sh},Kd v s->tH v v=true
 | _,.at_ (.int k),⟨n,rfl⟩=>by simp [tH]
 | _,.at_ .bool,⟨n,rfl⟩=>by simp [tH]
 | _,.at_ .str,⟨n,rfl⟩=>by simp [tH]
 | _,.sl _ _,h=>h.elim
theorem EM: ∀ {xs:List Value} {l:List Sh},dW Kd xs l->dU xs xs=true
 | [],[],_=>rfl
 | x::xs,s::l,h=>by
  rw [dU,R9 h.1,EM h.2];rfl
 | [],_::_,h=>h.elim
 | _::_,[],h=>h.elim
section
variable {P:Program} {w:World} {t:TypeId} {xo yo:Operand} {l:List Sh} {xs:List Value}
theorem EN (w:World) (hf:flat P 30 t=some l) (ho:FI P 30 t=true) (ha: ∀ xs,mkV P t xs= .agg xs.toArray) (hx:dW Kd xs l):(binOp .neq t (.agg xs.toArray) (.agg xs.toArray)).run P w= .ok (.bool false) w:=by
 have h:=rT (P:=P) w hf ho ha hx hx;rw [EM hx] at h;exact h
end
end
section
open Go.RowKit
def yT (n:Int):List UInt8:=[UInt8.ofNat (n / 16777216).toNat,UInt8.ofNat (n / 65536 % 256).toNat,UInt8.ofNat (n / 256 % 256).toNat,UInt8.ofNat (n % 256).toNat]
theorem YJ {n:Int} (h0:0<=n) (h1:n<=2147483647):
  byteCells (yT n)=[.int .u8 (n / 16777216),.int .u8 (n / 65536 % 256),.int .u8 (n / 256 % 256),.int .u8 (n % 256)]:=by
 have key: ∀ m:Int,0<=m->m<=255->((UInt8.ofNat m.toNat).toNat:Int)=m:=by
  intro m a b;simp;omega
 simp only [byteCells,yT,List.map_cons,List.map_nil];rw [key _ oQ oQ,key _ oQ oQ,key _ oQ oQ,key _ oQ oQ]
def qI (n:Int):List UInt8×Int:=if 0<=n/\n<=2147483647 then (yT n,0) else ([],2)
def nG (w:World) (r:List UInt8×Int) (e:Ending) (w':World):Prop:=
 ∃ A c,e= .returned (.tuple #[.slice A r.1.length c,.int .i64 r.2])/\Below w.heap.size w w'/\Rd w' w'.heap.size 1 A r.1.length (byteCells r.1)
theorem nG.none_ (w:World) (k:Int):nG w ([],k) (.returned (.tuple #[.slice none 0 0,.int .i64 k])) w:=
 ⟨none,0,rfl,Below.refl _ _,Rd.none_⟩
theorem nG.four (w:World) (n:Int) (h0:0<=n) (h1:n<=2147483647) (t:TypeId):
  nG w (yT n,0) (.returned (.tuple #[.slice (some ⟨w.heap.size,0,none⟩) 4 4,.int .i64 0])) (w.alloc (.cells #[.int .u8 (n / 16777216),.int .u8 (n / 65536 % 256),.int .u8 (n / 256 % 256),.int .u8 (n % 256)] t)):=by
 refine ⟨_,4,rfl,by go_grown,?_⟩;have:=Rd.afS w t (byteCells (yT n)) 4 1 (by simp [byteCells,yT]);rw [YJ h0 h1] at this⊢;have e4:(yT n).length=4:=rfl;simpa [e4] using this
theorem OT (n:Int) (w:World):Calls Tryz.prog 163 #[.int .i64 n] w (nG w (qI n)):=by
 by_cases h:0<=n/\n<=2147483647
 ·have hm:qI n=(yT n,0):=if_pos h;rw [hm];clear hm;obtain ⟨h0,h1⟩:=h
  go_enter Tryz.func163,Tryz.ntmps163
  go_wp2
  go_ret2
  exact nG.four w n h0 h1 _
 have hm:qI n=([],2):=if_neg h;rw [hm];clear hm;by_cases h0:n<0
 ·clear h
  go_enter Tryz.func163,Tryz.ntmps163
  go_wp2
  go_ret2
  exact nG.none_ w 2
 have h1:2147483647<n:=oQ;clear h
 go_enter Tryz.func163,Tryz.ntmps163
 go_wp2
 go_ret2
 exact nG.none_ w 2
end
section
open ChangeShapes WideShapes ChangeAt RowKit
section
variable {P:Program} {N:Nat} {l l':Slots} {w:World} {Q:Exit->Act->World->Prop}
def JD (P:Program) (c:Code) (Q:Exit->Act->World->Prop) (a:Act) (w:World):Prop:= ∀ (b:Frame) (k:List Item) (cs:List Frame),∃ e a' w',Q e a' w'/\Arrives P (lone (b.at a (.code c:: .inLoop c::k)) cs w) b k cs e a' w'
def wI (P:Program) (N:Nat) (c:Code) (Q:Exit->Act->World->Prop) (l:Slots) (w:World):Prop:= ∀ a,Fr N l a->JD P c Q a w
theorem FJ {c:Code} (h:wI P N c Q l w):wC P N (.loop c) Q l w:=by
 intro a F b k cs;obtain ⟨e,a',w',hq,harr⟩:=h a F b k cs;exact ⟨e,a',w',hq,.of_steps (.one step_loop) harr⟩
theorem lY {c:Code} (h:wC P N c (Exit.then (JD P c Q) Q) l w):wI P N c Q l w:=by
 intro a F b k cs;obtain ⟨e,a₁,w₁,hq,harr⟩:=h a F b (.inLoop c::k) cs
 cases e with
 | normal=>
  obtain ⟨e₂,a₂,w₂,hq₂,harr₂⟩:=hq b k cs;exact ⟨e₂,a₂,w₂,hq₂,.of_steps (Steps.trans harr (.one step_inLoop)) harr₂⟩
 | exit id=>exact ⟨_,a₁,w₁,hq,.pass (x:= .inLoop c) rfl (λ_ _=> .inl iQ) harr⟩
 | goto l=>exact ⟨_,a₁,w₁,hq,.pass (x:= .inLoop c) rfl (λ_ _=> .inl iQ) harr⟩
 | ret=>exact ⟨_,a₁,w₁,hq,.pass (x:= .inLoop c) rfl (λ_ _=> .inl iQ) harr⟩
 | panic ch=>exact ⟨_,a₁,w₁,hq,.pass (x:= .inLoop c) rfl (λ_ _=> .inl iQ) harr⟩
 | outgrown=>exact ⟨_,a₁,w₁,hq,.pass (x:= .inLoop c) rfl (λ_ _=> .inl iQ) harr⟩
theorem qb {c:Code} (h:wI P N c Q l w):wQ N (Exit.then (JD P c Q) Q) .normal l w:=h
end
end
section
open ChangeShapes WideShapes RowKit
section
variable {P:Program} {N:Nat} {l:Slots} {w w' w0:World} {B:Nat} {fs fs':List Fact} {ops:Array Oper} {o:Oper} {rest:List Oper} {Q:Exit->Act->World->Prop} {d:Nat} {v:Value} {t:TypeId} {xo yo:Operand}
abbrev str (l:List UInt8):Value:= .string ⟨l.toArray⟩
theorem ah9 (a b:List UInt8):((⟨a.toArray⟩:ByteArray)++⟨b.toArray⟩)=⟨(a++b).toArray⟩:=by
 apply ByteArray.ext;simp
theorem TP {a b c:List UInt8} (hc:a++b=c) (h:c.length<=4611686018427387904):(do eqGuard .add t xo yo (str a) (str b);binOp .add t (str a) (str b):Sem Value).run P w= .ok (str c) w:=by
 subst hc;rw [List.length_append] at h;have hs: ¬ (((⟨a.toArray⟩:ByteArray).size+(⟨b.toArray⟩:ByteArray).size:Nat):Int)>IntKind.i64.max:=by
  show ¬ ((a.toArray.size+b.toArray.size:Nat):Int)>9223372036854775807
  simp only [List.size_toArray];omega
 simp only [str,binOp,eqGuard_at_string,go_sem,Op.stringOp,if_neg hs,ah9];simp [eqGuard_add];omega
theorem St.atA {T e:TypeId} {b s2 n2:Nat} {p:Value} {A2:Option Addr} {bs xs2:List Value} (hlow:Below B w0 w') (hB:B<=w'.heap.size) (h:Lib.BuilderAt T e B b p bs w') (hr:Rd w' B s2 A2 n2 xs2): ∃ v,St B w0 w' [.blk b #[p,v] T,.own e 1 v bs.length bs,.rd s2 A2 n2 xs2]:=by
 obtain ⟨hb,v,hh,ho,hne⟩:=h;refine ⟨v,hlow,hB,λi f h=>?_,λi j f g hij h1 h2 k hk e=>?_⟩
 ·rcases i with _ | _ | _ | i
  ·simp at h;subst h;exact ⟨hb,⟨hh⟩⟩
  ·simp at h;subst h;exact ho
  ·simp at h;subst h;exact hr
  simp at h
 rcases i with _ | _ | _ | i<;>rcases j with _ | _ | _ | j<;>simp at h1 h2<;>try omega
 all_goals (subst h1;subst h2;simp only [Fact.foot] at hk e;first | (cases hk;done) | (cases e;done) | skip)
 ·cases hk;exact hne e
 cases e;exact hne hk
theorem St.aj0 {T e:TypeId} {b:Nat} {p v:Value} {bs:List Value} (S:St B w0 w (.blk b #[p,v] T:: .own e 1 v bs.length bs::fs)):Lib.BuilderAt T e B b p bs w:=
 ⟨St.ge 0 S rfl,v,(S.blk 0 rfl).blk,S.own 1 rfl,λh=>S.sep 0 1 _ _ (by decide) rfl rfl b rfl h⟩
theorem St.Xv {T e:TypeId} {b:Nat} {p v:Value} {bs:List Value} (S:St B w0 w (.blk b #[p,v] T:: .own e 1 v bs.length bs::fs)) (hp:p= .pointer none\/p= .pointer (some ⟨b,0,none⟩)):Lib.IsBuilder T e B b bs w:=by
 rcases hp with rfl | rfl
 ·exact .inl (St.aj0 S)
 exact .inr (St.aj0 S)
theorem rD (t:List UInt8):(⟨t.toArray⟩:ByteArray).size=t.length:=by show t.toArray.size=_;simp
end
section
variable {P:Program} {w:World} {t:TypeId} {xo yo:Operand}
theorem acs {b:List UInt8} {ts:Array TypeId} {ty:TypeId} {cs:Array Bool} (ht:ts= #[t]) (hu:P.underlying t=some .string):(builtin .len ts ty cs #[str b]).run P w= .ok (.value (.int .i64 ((b.length:Nat):Int))) w:=by
 subst ht;have h:=run_len_string (P:=P) w t ty ⟨b.toArray⟩ hu;simp [builtin,str,h,Sem.run_bind,Result.andThen,goInt,rD]
theorem adX {b c:List UInt8} {j:Nat} (hu:P.underlying t=some .string) (h2:j<=b.length) (hc:b.take j=c):
  (Instr.sliceAt t (str b) none (some (.int .i64 ((j:Nat):Int))) none).run P w= .ok (str c) w:=by
 subst hc;rw [run_sliceAt_string (P:=P) (h:=hu),str,run_slice_string_to_if (P:=P) w t ⟨b.toArray⟩ .i64 _ hu,if_pos ⟨by omega,by rw [rD];omega⟩];simp only [Int.toNat_natCast,ByteArray.extract_mk,List.drop_zero,Nat.sub_zero]
theorem VQ {b c:List UInt8} {i:Nat} (hu:P.underlying t=some .string) (h2:i<=b.length) (hc:b.drop i=c):
  (Instr.sliceAt t (str b) (some (.int .i64 ((i:Nat):Int))) none none).run P w= .ok (str c) w:=by
 subst hc;rw [run_sliceAt_string (P:=P) (h:=hu),str,run_slice_string_from_if (P:=P) w t ⟨b.toArray⟩ .i64 _ hu,if_pos ⟨by omega,by rw [rD];omega⟩];simp only [Int.toNat_natCast,ByteArray.extract_mk,rD];rw [List.take_of_length_le (by rw [List.length_drop];omega)]
theorem aia {a b:List UInt8} (h: ¬ a=b):(do eqGuard .neq t xo yo (str a) (str b);binOp .neq t (str a) (str b):Sem Value).run P w= .ok (.bool true) w:=by
 simp [str,binOp,eqGuard_at_string,go_sem,Op.stringOp,h]
theorem aib {a b:List UInt8} (h:a=b):(do eqGuard .neq t xo yo (str a) (str b);binOp .neq t (str a) (str b):Sem Value).run P w= .ok (.bool false) w:=by
 simp [str,binOp,eqGuard_at_string,go_sem,Op.stringOp,h]
theorem aob {a b:List UInt8} (h:a=b):(do eqGuard .eql t xo yo (str a) (str b);binOp .eql t (str a) (str b):Sem Value).run P w= .ok (.bool true) w:=by
 simp [str,binOp,eqGuard_at_string,go_sem,Op.stringOp,h]
theorem aoc {a b:List UInt8} (h: ¬ a=b):(do eqGuard .eql t xo yo (str a) (str b);binOp .eql t (str a) (str b):Sem Value).run P w= .ok (.bool false) w:=by
 simp [str,binOp,eqGuard_at_string,go_sem,Op.stringOp,h]
end
end
section
namespace In
open ChangeShapes WideShapes ChangeAt RowKit
abbrev Gu (r:Option Nat):Fence:={ Fence.wide with round:=r }
structure FK (ds:List Deferred) (N:Nat) (l:Slots) (a:Act):Prop where
 defers:a.defers=ds
 size:a.tmps.size=N
 get: ∀ k v,lk l k=some v->a.tmps[k]? =some v
section
variable {r:Option Nat} {ds:List Deferred} {P:Program} {N:Nat} {l l':Slots} {a:Act} {w w' w0:World} {B:Nat} {fs fs':List Fact} {ops:Array Oper} {o:Oper} {rest:List Oper} {Q:Exit->Act->World->Prop} {v u p:Value} {d:Nat}
theorem FK.fr (F:FK ds N l a):Fr N l { a with defers:=[] }:=⟨rfl,F.size,F.get⟩
theorem FK.of (F:Fr N l a) (d:Deferred):FK [d] N l { a with defers:=[d] }:=⟨rfl,F.size,F.get⟩
theorem FK.sub (F:FK ds N l a) (h:Ck l l'):FK ds N l' a:=⟨F.defers,F.size,λk v hk=>F.get k v (TL h k v hk)⟩
theorem FK.put (F:FK ds N l a) (hd:Nat.blt d N=true) (v:Value):FK ds N ((d,v)::l) (a.put (some d) v):=by
 have h:=F.fr.put hd v;exact ⟨by show (a.put (some d) v).defers=ds;unfold Act.put;exact F.defers,h.size,h.get⟩
theorem FK.ev {x:Operand} (F:FK ds N l a) (h:Go.Proofs.YtcomidffhiilcaaGreatDoor.ev l x=some v):a.eval x=v:=by
 have:=F.fr.ev h
 cases x<;>exact this
theorem eval_eq (a:Act):({ a with defers:=[] }:Act).eval=a.eval:=by
 funext x
 cases x<;>rfl
def wC (r:Option Nat) (ds:List Deferred) (P:Program) (N:Nat) (c:Code) (Q:Exit->Act->World->Prop) (l:Slots) (w:World):Prop:= ∀ a,FK ds N l a->c.wpIn (Gu r) 0 P Q a w
def wL (r:Option Nat) (ds:List Deferred) (P:Program) (N:Nat) (ops:Array Oper) (Q:Exit->Act->World->Prop) (rest:List Oper) (l:Slots) (w:World):Prop:= ∀ a,FK ds N l a->wpListIn (Gu r) 0 P ops Q rest a w
def wQ (ds:List Deferred) (N:Nat) (Q:Exit->Act->World->Prop) (e:Exit) (l:Slots) (w:World):Prop:= ∀ a,FK ds N l a->Q e a w
theorem aA {x y:Code} (h:wC r ds P N x (Exit.then (y.wpIn (Gu r) 0 P Q) Q) l w):wC r ds P N (.seq x y) Q l w:=λa F=>wpIn_seq (h a F)
theorem av {id:Nat} {os:List Oper} (h:wL r ds P N os.toArray Q os l w):wC r ds P N (.region id os.toArray false) Q l w:=λa F=>wpIn_region_lit (h a F)
theorem dO {c:Operand} {x y:Code} (hc:Go.Proofs.YtcomidffhiilcaaGreatDoor.ev l c=some (.bool true)) (h:wC r ds P N x Q l w):wC r ds P N (.cond c x y) Q l w:=λa F=>wpIn_cond_true (F.ev hc) (h a F)
theorem bZ {c:Operand} {x y:Code} (hc:Go.Proofs.YtcomidffhiilcaaGreatDoor.ev l c=some (.bool false)) (h:wC r ds P N y Q l w):wC r ds P N (.cond c x y) Q l w:=λa F=>wpIn_cond_false (F.ev hc) (h a F)
theorem gH {id:Nat} {c:Code} (h:wC r ds P N c (Exit.inBlock id Q) l w):wC r ds P N (.block id c) Q l w:=λa F=>wpIn_block (h a F)
theorem qH {id:Nat} (h:wQ ds N Q (.exit id) l w):wC r ds P N (.exit id) Q l w:=λa F=>wpIn_exit (h a F)
theorem fC (h:wQ ds N Q .normal l w):wC r ds P N .skip Q l w:=λa F=>wpIn_skip (h a F)
theorem fP (h:wQ ds N Q .ret l w):wC r ds P N .ret Q l w:=λa F=>wpIn_ret (h a F)
theorem bg {c:Code} (hs:Ck l l') (h:wC r ds P N c Q l' w):wC r ds P N c Q l w:=λa F=>h a (F.sub hs)
theorem aK {e:Exit} (hs:Ck l l') (h:wQ ds N Q e l' w):wQ ds N Q e l w:=λa F=>h a (F.sub hs)
theorem ay {y:Code} (h:wC r ds P N y Q l w):wQ ds N (Exit.then (y.wpIn (Gu r) 0 P Q) Q) .normal l w:=h
theorem dR {K:Act->World->Prop} {id:Nat} (h:wQ ds N Q (.exit id) l w):wQ ds N (Exit.then K Q) (.exit id) l w:=h
theorem aO {K:Act->World->Prop} (h:wQ ds N Q .ret l w):wQ ds N (Exit.then K Q) .ret l w:=h
theorem dz {id:Nat} (h:wQ ds N Q .normal l w):wQ ds N (Exit.inBlock id Q) .normal l w:=h
theorem dx {id:Nat} (h:wQ ds N Q .ret l w):wQ ds N (Exit.inBlock id Q) .ret l w:=h
theorem jN {id:Nat} (h:wQ ds N Q .normal l w):wQ ds N (Exit.inBlock id Q) (.exit id) l w:=λa F=>by
 show if id=id then _ else _
 rw [if_pos rfl];exact h a F
theorem tZ {b:Bool} (hw:Wanted N ops l o b) (F:FK ds N l a):Region.wanted o (yielded ops a.tmps)=b:=hw { a with defers:=[] } F.fr
theorem aT (h:wQ ds N Q .normal l w):wL r ds P N ops Q [] l w:=h
theorem bq (hw:Wanted N ops l o true) (hd:o.dst=some d) (hN:Nat.blt d N=true) (hy:iP P N l o w v) (h:wL r ds P N ops Q rest ((d,v)::l) w) (hnd: ∀ c,o.op≠ .defer c:=by intro c h;cases h):wL r ds P N ops Q (o::rest) l w:=λa F=>wpListIn_step λK hK=>by
 rw [if_pos (tZ hw F)];refine ⟨λ_ _=>trivial,?_⟩;have hr:(execOp a.eval o).run P w= .ok (.value v) w:=by rw [<-eval_eq];exact hy _ F.fr
 rw [Oper.semAt_eq _ _ _ hnd,hr]
 show K (a.put o.dst v) w
 rw [hd];exact hK _ _ (h _ (F.put hN v))
theorem EF (hw:Wanted N ops l o true) (hd:o.dst=some d) (hN:Nat.blt d N=true) (hy:Does P N l o w v w') (h:wL r ds P N ops Q rest ((d,v)::l) w') (hnd: ∀ c,o.op≠ .defer c:=by intro c h;cases h):wL r ds P N ops Q (o::rest) l w:=λa F=>wpListIn_step λK hK=>by
 rw [if_pos (tZ hw F)];refine ⟨λ_ _=>trivial,?_⟩;have hr:(execOp a.eval o).run P w= .ok (.value v) w':=by rw [<-eval_eq];exact hy _ F.fr
 rw [Oper.semAt_eq _ _ _ hnd,hr]
 show K (a.put o.dst v) w'
 rw [hd];exact hK _ _ (h _ (F.put hN v))
theorem EG (hw:Wanted N ops l o true) (hd:o.dst=none) (hy:Eff P N l o w w') (h:wL r ds P N ops Q rest l w') (hnd: ∀ c,o.op≠ .defer c:=by intro c h;cases h):wL r ds P N ops Q (o::rest) l w:=λa F=>wpListIn_step λK hK=>by
 rw [if_pos (tZ hw F)];refine ⟨λ_ _=>trivial,?_⟩;have hr:(execOp a.eval o).run P w= .ok .skip w':=by rw [<-eval_eq];exact hy _ F.fr
 rw [Oper.semAt_eq _ _ _ hnd,hr]
 show K (a.put o.dst undef) w'
 rw [hd];exact hK _ _ (h _ F)
theorem xB (hw:Wanted N ops l o false) (hd:o.dst=some d) (hN:Nat.blt d N=true) (h:wL r ds P N ops Q rest ((d,undef)::l) w):wL r ds P N ops Q (o::rest) l w:=λa F=>wpListIn_step λK hK=>by
 rw [if_neg (by rw [tZ hw F];simp),hd];exact ⟨λ_ _=>trivial,hK _ _ (h _ (F.put hN undef))⟩
theorem YK {f:FuncId} {args:Array Value} {R:Ending->World->Prop} (h:Calls P f args w R):CallsIn (Gu r) 0 P f args w R:=by
 have h1:CallsIn Fence.wide 0 P f args w R:=callsIn_wide.2 h
 cases r with
 | none=>exact h1
 | some k=>exact CallsIn.inRound k h1
theorem jy {f:FuncId} {vs:List Value} {R:Ending->World->Prop} (hw:Wanted N ops l o true) (hd:o.dst=some d) (hN:Nat.blt d N=true) (he:Enter P N l o w f vs) (hc:Calls P f vs.toArray w R)
  (h: ∀ e w',R e w'-> ∃ v,e= .returned v/\wL r ds P N ops Q rest ((d,v)::l) w') (hnd: ∀ c,o.op≠ .defer c:=by intro c h;cases h):wL r ds P N ops Q (o::rest) l w:=λa F=>wpListIn_step λK hK=>by
 rw [if_pos (tZ hw F)];refine ⟨λ_ _=>trivial,?_⟩;have hr:(execOp a.eval o).run P w= .ok (.enter f vs.toArray) w:=by rw [<-eval_eq];exact he _ F.fr
 rw [Oper.semAt_eq _ _ _ hnd,hr];refine ⟨λh=>(by cases h),(YK hc).mono λe w' hr=>?_⟩;obtain ⟨v,rfl,hv⟩:=h e w' hr
 show K (a.put o.dst v) w'
 rw [hd];exact hK _ _ (hv _ (F.put hN v))
theorem iD {V:Nat->Value} {row:Array Value} {t:TypeId} (S:St B w0 w fs) (hw:Wanted N ops l o true) (hd:o.dst=some d) (hN:Nat.blt d N=true) (hy:Does P N l o w (V w.heap.size) (w.alloc (.cells row t)))
  (h: ∀ b w',St B w0 w' (.blk b row t::fs)->wL r ds P N ops Q rest ((d,V b)::l) w') (hnd: ∀ c,o.op≠ .defer c:=by intro c h;cases h):wL r ds P N ops Q (o::rest) l w:=EF hw hd hN hy (h _ _ S.alloc) hnd
theorem fq {ty t:TypeId} {x y:Operand} {b off m:Nat} {cs row row':Array Value} (i:Nat) (S:St B w0 w fs) (hw:Wanted N ops l o true) (hd:o.dst=none) (ho:o.op= .store ty x y) (hx:ev l x=some (.pointer (some ⟨b,off,none⟩))) (hy:ev l y=some v)
  (hi:fs[i]? =some (.blk b row t)) (hv:v.cells=cs) (hz:(P.info? ty).map (·.size)=some m) (hm:cs.size=m) (h1: ∀ u∈cs.toList,u.oneCell'=true) (hr:off+m<=row.size) (hrow:cB row off cs.toList=row') (hfs:fs.set i (.blk b row' t)=fs')
  (h: ∀ w',St B w0 w' fs'->wL r ds P N ops Q rest l w'):wL r ds P N ops Q (o::rest) l w:=by
 subst hrow;subst hfs;exact EG hw hd (Hz ho hx hy (H9 hv hz hm h1 (S.there i hi off m hr))) (h _ (S.set i hi (jh b cs.toList off w) (jg cs.toList off (S.blk i hi)))) (λc e=>by rw [ho] at e;cases e)
theorem dY {x y:Operand} {t e:TypeId} {z:Value} {size bytes n m c Br:Nat} {A:Option Addr} {xs news xs':List Value} {sv:Value} (i:Nat) (S:St B w0 w fs) (hw:Wanted N ops l o true) (hd:o.dst=some d) (hN:Nat.blt d N=true)
  (ho:o.op= .call { callee:= .builtin .append,args:= #[x,y],argTypes:= #[t,t] }) (hx:ev l x=some sv) (hy:ev l y=some (.slice A m c)) (hi:fs[i]? =some (.own e size sv n xs)) (hr:Rd w Br size A m news)
  (ht:P.underlying t=some (.slice e)) (Qf:(P.info? e).map (λi=>(i.zero,i.size,i.bytes))=some (some z,size,bytes)) (hzs:z.cells.size=size) (hsz:0<size) (h1: ∀ u∈news,u.oneCell'=true) (h63:n+m<=maxLen) (hbytes:(n+m)*bytes<=140737488355328)
  (hxs:xs++news=xs') (h: ∀ A' c' w',n+m<=c'->c'<=maxLen->St B w0 w' (fs.set i (.own e size (.slice A' (n+m) c') (n+m) xs'))->wL r ds P N ops Q rest ((d,.slice A' (n+m) c')::l) w'):wL r ds P N ops Q (o::rest) l w:=by
 subst hxs;obtain ⟨j0,hj0,hz,hs,hb⟩:=info_parts Qf;obtain ⟨v',w',hrun,h2,h3,h4⟩:=qA (P:=P) w B t o.type e j0 z size bytes ht hj0 hz hs hb hzs hsz sv n xs (S.own i hi) Br A m c news hr h1 h63 hbytes S.base;obtain ⟨A',c',rfl,hc1,hc2⟩:=lX h2;exact EF hw hd hN (AY (xs:=[x,y]) (vs:=[sv,.slice A m c]) ho ⟨hx,hy,trivial⟩ (λcs=>by simp [builtin,hrun,Sem.run_bind,Result.andThen])) (h A' c' w' hc1 hc2 (S.append i hi h3 h2 h4)) (λc e=>by rw [ho] at e;cases e)
theorem YL {K K':Act->World->Prop} (h:o.wpIn (Gu r) 0 P a w K (Exit.then K' Q)):o.wpIn (Gu r) 0 P a w K Q:=by
 unfold Oper.wpIn at*;refine ⟨h.1,?_⟩;have hh:=h.2;generalize (o.semAt (Gu r).round a.eval).run P w=q at*
 cases q with
 | ok x w'=>cases x<;>exact hh
 | halt x w'=>cases x<;>exact hh
def wA (r:Option Nat) (ds:List Deferred) (P:Program) (N:Nat) (ops:Array Oper) (Q:Exit->Act->World->Prop) (n:Nat) (listed:Array Bool) (l:Slots) (w:World):Prop:= ∀ a,FK ds N l a->wpAnyIn (Gu r) 0 P .any ops Q n listed a w
def wK (r:Option Nat) (ds:List Deferred) (P:Program) (N:Nat) (ops:Array Oper) (Q:Exit->Act->World->Prop) (n i:Nat) (listed:Array Bool) (l:Slots) (w:World):Prop:= ∀ a,FK ds N l a->wpOpIn (Gu r) 0 P ops Q i (wpAnyIn (Gu r) 0 P .any ops Q n (listed.setIfInBounds i true)) a w
theorem nY {listed:Array Bool} (hr:Region.ready .any ops listed=[]) (h:wQ ds N Q .normal l w):wA r ds P N ops Q 0 listed l w:=λa F=>⟨hr,h a F⟩
theorem gJ {n i:Nat} {listed:Array Bool} (hr:Region.ready .any ops listed=[i]) (h:wK r ds P N ops Q n i listed l w):wA r ds P N ops Q (n+1) listed l w:=λa F=>
 wpAnyIn_all hr (by simp) λk hk=>by rw [List.mem_singleton] at hk;subst hk;exact h a F
theorem fu {n i j:Nat} {listed:Array Bool} (hr:Region.ready .any ops listed=[i,j]) (h1:wK r ds P N ops Q n i listed l w) (h2:wK r ds P N ops Q n j listed l w):wA r ds P N ops Q (n+1) listed l w:=λa F=>
 wpAnyIn_all hr (by simp) λk hk=>by
  rcases List.mem_cons.1 hk with rfl | hk
  ·exact h1 a F
  rw [List.mem_singleton] at hk;subst hk;exact h2 a F
theorem gD {n i:Nat} {listed listed':Array Bool} (hi:ops[i]? =some o) (hl:listed.setIfInBounds i true=listed') (h:wL r ds P N ops (Exit.then (wpAnyIn (Gu r) 0 P .any ops Q n listed') Q) [o] l w):wK r ds P N ops Q n i listed l w:=λa F=>by
 subst hl;have h1:=h a F;refine wpOpIn_step hi λK hK=>?_;have h2:if Region.wanted o (yielded ops a.tmps) then o.wpIn (Gu r) 0 P a w (wpAnyIn (Gu r) 0 P .any ops Q n (listed.setIfInBounds i true)) (Exit.then (wpAnyIn (Gu r) 0 P .any ops Q n (listed.setIfInBounds i true)) Q) else (∀ f,o.about P w a.eval=some f->(Gu r).fn f)/\wpAnyIn (Gu r) 0 P .any ops Q n (listed.setIfInBounds i true) (a.put o.dst undef) w:=h1
 split
 ·rename_i hw
  rw [if_pos hw] at h2;exact Oper.wpIn_mono hK (YL h2)
 rename_i hw
 rw [if_neg hw] at h2;exact ⟨h2.1,hK _ _ h2.2⟩
theorem jH {n:Nat} {listed:Array Bool} (h:wA r ds P N ops Q n listed l w):wQ ds N (Exit.then (wpAnyIn (Gu r) 0 P .any ops Q n listed) Q) .normal l w:=h
theorem I6 {id:Nat} {os:List Oper} {n:Nat} {listed:Array Bool} (S:St B w0 w fs) (hm:P.follows .mixedOrders=true) (hn:os.toArray.size=n) (hl:Array.replicate n false=listed) (h: ∀ w',St B w0 w' fs->wA r ds P N os.toArray Q n listed l w'):wC r ds P N (.region id os.toArray true) Q l w:=λa F=>by
 subst hn;subst hl;exact wpIn_region_any hm (h _ S.drew a F)
end
end In
end
end Go.Proofs.YtcomidffhiilcaaGreatDoor
