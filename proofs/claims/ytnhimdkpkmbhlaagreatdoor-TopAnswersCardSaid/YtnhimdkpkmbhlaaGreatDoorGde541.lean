import Derived.Laws.IdiomCopy
import Derived.Test.YtnhimdkpkmbhlaaGreatDoorGfab30
set_option maxRecDepth 100000
set_option maxHeartbeats 8000000
set_option linter.unusedSimpArgs false
set_option linter.unusedVariables false
namespace Go.Proofs.YtnhimdkpkmbhlaaGreatDoor
open ChangeShapes WideShapes ChangeAt RowKit
def fV (P:Program) (N:Nat) (l:Slots) (o:Oper) (w:World) (v:Value):Prop:= ∀ a,Fr N l a->(execOp a.eval o).run P w= .ok (.value v) w
def Does (P:Program) (N:Nat) (l:Slots) (o:Oper) (w:World) (v:Value) (w':World):Prop:= ∀ a,Fr N l a->(execOp a.eval o).run P w= .ok (.value v) w'
def Eff (P:Program) (N:Nat) (l:Slots) (o:Oper) (w w':World):Prop:= ∀ a,Fr N l a->(execOp a.eval o).run P w= .ok .skip w'
def Enter (P:Program) (N:Nat) (l:Slots) (o:Oper) (w:World) (f:FuncId) (vs:List Value):Prop:= ∀ a,Fr N l a->(execOp a.eval o).run P w= .ok (.enter f vs.toArray) w
def Wanted (N:Nat) (ops:Array Oper) (l:Slots) (o:Oper) (b:Bool):Prop:= ∀ a,Fr N l a->Region.wanted o (yielded ops a.tmps)=b
def yl:Value->Option Bool
 | .bool b=>some b
 | _=>none
section
variable {P:Program} {N:Nat} {l l':Slots} {a:Act} {w w' w0:World} {B:Nat} {fs fs':List Fact} {ops:Array Oper} {o:Oper} {rest:List Oper} {Q:Exit->Act->World->Prop} {v u p:Value} {d:Nat}
theorem wn (hg:o.guard=none):Wanted N ops l o true:=λa F=>by simp [Region.wanted,hg]
theorem wg {j:Nat} {b r:Bool} {t:Nat} (hg:o.guard=some (j,b)) (hj:(ops[j]?).bind (·.dst)=some t) (hv:lk l t=some v) (hr:(yl v==some b)=r):Wanted N ops l o r:=λa F=>by
 have h1:=F.get t v hv;have h2:yielded ops a.tmps j=yl v:=by
  unfold yielded;rw [hj];simp only [Option.bind_some,h1]
  cases v<;>rfl
 simp only [Region.wanted,hg,h2];exact hr
theorem Dw (h:wQ N Q .normal l w):wL P N ops Q [] l w:=h
theorem Dx (hw:Wanted N ops l o true) (hd:o.dst=some d) (hN:Nat.blt d N=true) (hy:fV P N l o w v) (h:wL P N ops Q rest ((d,v)::l) w):wL P N ops Q (o::rest) l w:=λa F=>wpList_step λK hK=>by
 rw [if_pos (hw a F)];unfold Oper.wp;rw [hy a F]
 show K (a.put o.dst v) w
 rw [hd];exact hK _ _ (h _ (F.put hN v))
theorem NK (hw:Wanted N ops l o true) (hd:o.dst=some d) (hN:Nat.blt d N=true) (hy:Does P N l o w v w') (h:wL P N ops Q rest ((d,v)::l) w'):wL P N ops Q (o::rest) l w:=λa F=>wpList_step λK hK=>by
 rw [if_pos (hw a F)];unfold Oper.wp;rw [hy a F]
 show K (a.put o.dst v) w'
 rw [hd];exact hK _ _ (h _ (F.put hN v))
theorem Li (hw:Wanted N ops l o true) (hd:o.dst=none) (hy:Eff P N l o w w') (h:wL P N ops Q rest l w'):wL P N ops Q (o::rest) l w:=λa F=>wpList_step λK hK=>by
 rw [if_pos (hw a F)];unfold Oper.wp;rw [hy a F]
 show K (a.put o.dst undef) w'
 rw [hd];exact hK _ _ (h _ F)
theorem VN (hw:Wanted N ops l o false) (hd:o.dst=some d) (hN:Nat.blt d N=true) (h:wL P N ops Q rest ((d,undef)::l) w):wL P N ops Q (o::rest) l w:=λa F=>wpList_step λK hK=>by
 rw [if_neg (by rw [hw a F];simp),hd];exact hK _ _ (h _ (F.put hN undef))
theorem Gg {f:FuncId} {vs:List Value} {R:Ending->World->Prop} (hw:Wanted N ops l o true) (hd:o.dst=some d) (hN:Nat.blt d N=true) (he:Enter P N l o w f vs) (hc:Calls P f vs.toArray w R)
  (h: ∀ e w',R e w'-> ∃ v,e= .returned v/\wL P N ops Q rest ((d,v)::l) w'):wL P N ops Q (o::rest) l w:=λa F=>wpList_step λK hK=>by
 rw [if_pos (hw a F)];unfold Oper.wp;rw [he a F];refine hc.mono λe w' hr=>?_;obtain ⟨v,rfl,hv⟩:=h e w' hr
 show K (a.put o.dst v) w'
 rw [hd];exact hK _ _ (hv _ (F.put hN v))
theorem ay {f:FuncId} {fn:Func} {c:Code} (hf:P.funcs[f]? =some fn) (hname:(fn.name== "runtime.NumGoroutine")=false) (hb:fn.body=some c) (args:Array Value) (w:World):(callFunc f args).run P w= .ok (.enter f args) w:=by
 have h1:fn.name≠ "runtime.NumGoroutine" :=by simpa using hname
 simp [callFunc,hf,h1,hb,mark]
theorem iM {f:FuncId} {xs:List Operand} {ts:Array TypeId} {vs:List Value} (ho:o.op= .call { callee:= .value (.func f),args:=xs.toArray,argTypes:=ts }) (Ku: ∀ args w,(callFunc f args).run P w= .ok (.enter f args) w) (hx:NC l xs vs):Enter P N l o w f vs:=λa F=>by
 have h1:=F.evs hx;unfold execOp;simp only [ho,resolve,Deferred.ofValue,invoke,Sem.run_bind,Sem.run_pure,Result.andThen_ok,List.map_toArray,h1,Act.eval];simp [Ku]
theorem aaV {x:Operand} (ho:o.op= .move x) (hx:ev l x=some v):fV P N l o w v:=λa F=>by
 unfold execOp;simp only [ho,F.ev hx,Sem.run_pure]
theorem Pk {x:Operand} (ho:o.op= .assign x) (hx:ev l x=some v):fV P N l o w v:=λa F=>by
 unfold execOp;simp only [ho,F.ev hx,Sem.run_pure]
theorem acj {c x y:Operand} (ho:o.op= .pick c x y) (hc:ev l c=some (.bool true)) (hx:ev l x=some v):fV P N l o w v:=λa F=>by
 unfold execOp;simp only [ho,F.ev hx,F.ev hc,asBool,Sem.run_bind,Sem.run_pure,Result.andThen_ok,if_true]
theorem acn {c x y:Operand} (ho:o.op= .pick c x y) (hc:ev l c=some (.bool false)) (hx:ev l y=some v):fV P N l o w v:=λa F=>by
 unfold execOp;simp only [ho,F.ev hx,F.ev hc,asBool,Sem.run_bind,Sem.run_pure,Result.andThen_ok];simp
theorem ah {t:TypeId} {x:Operand} (ho:o.op= .load t x) (hx:ev l x=some p) (hr:(Instr.loadAt t p).run P w= .ok v w):fV P N l o w v:=λa F=>by
 unfold execOp;simp only [ho,F.ev hx,Sem.run_bind,hr,Result.andThen_ok,Sem.run_pure]
theorem FC {s:TypeId} {x:Operand} {f:Nat} (ho:o.op= .fieldAddr s x f) (hx:ev l x=some p) (hr:(Instr.fieldAt s p f).run P w= .ok v w):fV P N l o w v:=λa F=>by
 unfold execOp;simp only [ho,F.ev hx,Sem.run_bind,hr,Result.andThen_ok,Sem.run_pure]
theorem aO {s:TypeId} {x y:Operand} {q:Value} (ho:o.op= .indexAddr s x y) (hx:ev l x=some p) (hy:ev l y=some q) (hr:(Instr.indexAt s p q).run P w= .ok v w):fV P N l o w v:=λa F=>by
 unfold execOp;simp only [ho,F.ev hx,F.ev hy,Sem.run_bind,hr,Result.andThen_ok,Sem.run_pure]
theorem afD {s:TypeId} {x y:Operand} {q:Value} (ho:o.op= .index s x y) (hx:ev l x=some p) (hy:ev l y=some q) (hr:(Instr.index s p q).run P w= .ok v w):fV P N l o w v:=λa F=>by
 unfold execOp;simp only [ho,F.ev hx,F.ev hy,Sem.run_bind,hr,Result.andThen_ok,Sem.run_pure]
def EvO (l:Slots):Option Operand->Option Value->Prop
 | none,none=>True
 | some x,some v=>ev l x=some v
 | _,_=>False
theorem Fr.evo (F:Fr N l a) {x:Option Operand} {x':Option Value} (h:EvO l x x'):x.map a.eval=x':=by
 cases x<;>cases x'
 ·rfl
 ·exact h.elim
 ·exact h.elim
 simpa using F.ev h
theorem jI {s:TypeId} {x:Operand} {lo hi mx:Option Operand} {lo' hi' mx':Option Value} (ho:o.op= .slice s x lo hi mx) (hx:ev l x=some p) (h1:EvO l lo lo') (h2:EvO l hi hi') (h3:EvO l mx mx')
  (hr:(Instr.sliceAt s p lo' hi' mx').run P w= .ok v w):fV P N l o w v:=λa F=>by
 unfold execOp;simp only [ho,F.ev hx,F.evo h1,F.evo h2,F.evo h3,Sem.run_bind,hr,Result.andThen_ok,Sem.run_pure]
theorem aF {op:BinOp} {t t':TypeId} {x y:Operand} {q:Value} (ho:o.op= .binOp op t x y t') (hx:ev l x=some p) (hy:ev l y=some q) (hr:(do eqGuard op t x y p q;binOp op t p q:Sem Value).run P w= .ok v w):fV P N l o w v:=λa F=>by
 unfold execOp;simp only [ho,F.ev hx,F.ev hy,Sem.run_bind] at hr⊢;rw [hr];simp only [Result.andThen_ok,Sem.run_pure]
theorem aaW {op:UnOp} {t:TypeId} {x:Operand} (ho:o.op= .unOp op t x) (hx:ev l x=some p) (hr:(Op.unary op p).run P w= .ok v w):fV P N l o w v:=λa F=>by
 unfold execOp;simp only [ho,F.ev hx,Sem.run_bind,hr,Result.andThen_ok,Sem.run_pure]
theorem Eu {s t:TypeId} {x:Operand} (ho:o.op= .convert s t x) (hx:ev l x=some p) (hr:(convert s t p).run P w= .ok v w):fV P N l o w v:=λa F=>by
 unfold execOp;simp only [ho,F.ev hx,Sem.run_bind,hr,Result.andThen_ok,Sem.run_pure]
theorem XD {x:Operand} {k:Nat} {vs:Array Value} (ho:o.op= .extract x k) (hx:ev l x=some (.tuple vs)) (hk:vs[k]? =some v):fV P N l o w v:=λa F=>by
 unfold execOp;simp only [ho,F.ev hx,Instr.extract,Sem.run_bind,hk];simp [Result.andThen]
theorem arb {x:Operand} (ho:o.op= .nilCheck x) (hx:ev l x=some p) (hp:match p with | .pointer (some _)=>True | .func (.func _) _ _=>True | .func (.via ..) _ _=>True | _=>False):fV P N l o w p:=λa F=>by
 unfold execOp;simp only [ho,F.ev hx]
 cases p with
 | pointer ad=>cases ad with
  | none=>exact hp.elim
  | some ad=>rfl
 | func fn f c=>cases fn<;>first | rfl | exact hp.elim
 | _=>exact hp.elim
theorem jQ {b:Builtin} {xs:List Operand} {ts:Array TypeId} {vs:List Value} (ho:o.op= .call { callee:= .builtin b,args:=xs.toArray,argTypes:=ts }) (hx:NC l xs vs)
  (hr: ∀ cs,(builtin b ts o.type cs vs.toArray).run P w= .ok (.value v) w):fV P N l o w v:=λa F=>by
 have h1:=F.evs hx;unfold execOp;simp only [ho,resolve,invoke,Sem.run_bind,Sem.run_pure,Result.andThen_ok,List.map_toArray,h1,hr]
theorem Ew {b:Builtin} {xs:List Operand} {ts:Array TypeId} {vs:List Value} (ho:o.op= .call { callee:= .builtin b,args:=xs.toArray,argTypes:=ts }) (hx:NC l xs vs)
  (hr: ∀ cs,(builtin b ts o.type cs vs.toArray).run P w= .ok (.value v) w'):Does P N l o w v w':=λa F=>by
 have h1:=F.evs hx;unfold execOp;simp only [ho,resolve,invoke,Sem.run_bind,Sem.run_pure,Result.andThen_ok,List.map_toArray,h1,hr]
def EvP (l:Slots):List (Nat×Operand)->List (Nat×Value)->Prop
 | [],[]=>True
 | (i,x)::xs,(j,v)::vs=>i=j/\ev l x=some v/\EvP l xs vs
 | _,_=>False
theorem Fr.evp (F:Fr N l a): ∀ {xs:List (Nat×Operand)} {vs:List (Nat×Value)},EvP l xs vs->(xs.map λx=>(x.1,a.eval x.2))=vs
 | [],[],_=>rfl
 | (i,x)::xs,(j,v)::vs,h=>by
  obtain ⟨rfl,h1,h2⟩:=h;rw [List.map_cons,F.ev h1,F.evp h2]
 | [],_::_,h=>h.elim
 | _::_,[],h=>h.elim
theorem Cc {t:TypeId} {xs:List (Nat×Operand)} {vs:List (Nat×Value)} (ho:o.op= .build t xs.toArray) (hx:EvP l xs vs) (hr:(Instr.build t vs.toArray).run P w= .ok v w):fV P N l o w v:=λa F=>by
 have h1:=F.evp hx;unfold execOp;simp only [ho,List.map_toArray,h1,Sem.run_bind,hr,Result.andThen_ok,Sem.run_pure]
theorem aV {t:TypeId} {n:Nat} {xs:List (Nat×Operand)} {vs:List (Nat×Value)} (ho:o.op= .buildSlice t n xs.toArray) (hx:EvP l xs vs) (hr:(Instr.buildSlice t n vs.toArray).run P w= .ok v w'):Does P N l o w v w':=λa F=>by
 have h1:=F.evp hx;unfold execOp;simp only [ho,List.map_toArray,h1,Sem.run_bind,hr,Result.andThen_ok,Sem.run_pure]
theorem iD {t:TypeId} {z:Value} {row:Array Value} (ho:o.op= .alloc t) (hz:(zeroValue t).run P w= .ok z w) (hc:z.cells=row):Does P N l o w (.pointer (some ⟨w.heap.size,0,none⟩)) (w.alloc (.cells row t)):=λa F=>by
 subst hc;unfold execOp;simp [ho,Instr.alloc,hz,newVar,newRow,Result.andThen,Sem.run_bind]
theorem aat {t:TypeId} {x:Operand} {row:Array Value} (ho:o.op= .box t x) (hx:ev l x=some p) (hc:p.cells=row):Does P N l o w (.pointer (some ⟨w.heap.size,0,none⟩)) (w.alloc (.cells row t)):=λa F=>by
 subst hc;unfold execOp;simp [ho,Instr.box,F.ev hx,newVar,newRow,Result.andThen,Sem.run_bind]
theorem FE {t:TypeId} {x y:Operand} {q:Value} (ho:o.op= .makeSlice t x y) (hx:ev l x=some p) (hy:ev l y=some q) (hr:(Instr.makeSlice t p q).run P w= .ok v w'):Does P N l o w v w':=λa F=>by
 unfold execOp;simp only [ho,F.ev hx,F.ev hy,Sem.run_bind,hr,Result.andThen_ok,Sem.run_pure]
theorem Lj {t:TypeId} (ho:o.op= .makeMap t none) (hr:(Instr.makeMap t none).run P w= .ok v w'):Does P N l o w v w':=λa F=>by
 unfold execOp;simp only [ho,Option.map_none,Sem.run_bind,hr,Result.andThen_ok,Sem.run_pure]
theorem MU {t:TypeId} {x y:Operand} {q:Value} (ho:o.op= .store t x y) (hx:ev l x=some p) (hy:ev l y=some q) (hr:(Instr.storeAt t p q).run P w= .ok () w'):Eff P N l o w w':=λa F=>by
 unfold execOp;simp only [ho,F.ev hx,F.ev hy,Sem.run_bind,hr,Result.andThen_ok,Sem.run_pure]
theorem QU {t:TypeId} {m x y:Operand} {q r:Value} (ho:o.op= .mapUpdate t m x y) (hm:ev l m=some p) (hx:ev l x=some q) (hy:ev l y=some r) (hr:(Instr.mapUpdate t p q r).run P w= .ok () w'):Eff P N l o w w':=λa F=>by
 unfold execOp;simp only [ho,F.ev hm,F.ev hx,F.ev hy,Sem.run_bind,hr,Result.andThen_ok,Sem.run_pure]
section runs
variable {t s:TypeId} {xo yo:Operand} {k:IntKind} {x y:Int}
theorem Gi (h:x<y):(do eqGuard .lss t xo yo (.int k x) (.int k y);binOp .lss t (.int k x) (.int k y):Sem Value).run P w= .ok (.bool true) w:=by simp [binOp,Op.intCmp,h,eqGuard_lss]
theorem Gj (h: ¬ x<y):(do eqGuard .lss t xo yo (.int k x) (.int k y);binOp .lss t (.int k x) (.int k y):Sem Value).run P w= .ok (.bool false) w:=by simp [binOp,Op.intCmp,eqGuard_lss];omega
theorem VO (h:x<=y):(do eqGuard .leq t xo yo (.int k x) (.int k y);binOp .leq t (.int k x) (.int k y):Sem Value).run P w= .ok (.bool true) w:=by simp [binOp,Op.intCmp,h,eqGuard_leq]
theorem VP (h: ¬ x<=y):(do eqGuard .leq t xo yo (.int k x) (.int k y);binOp .leq t (.int k x) (.int k y):Sem Value).run P w= .ok (.bool false) w:=by simp [binOp,Op.intCmp,eqGuard_leq];omega
theorem VQ (h:y<x):(do eqGuard .gtr t xo yo (.int k x) (.int k y);binOp .gtr t (.int k x) (.int k y):Sem Value).run P w= .ok (.bool true) w:=by simp [binOp,Op.intCmp,h,eqGuard_gtr]
theorem VR (h: ¬ y<x):(do eqGuard .gtr t xo yo (.int k x) (.int k y);binOp .gtr t (.int k x) (.int k y):Sem Value).run P w= .ok (.bool false) w:=by simp [binOp,Op.intCmp,eqGuard_gtr];omega
theorem MV (h:y<=x):(do eqGuard .geq t xo yo (.int k x) (.int k y);binOp .geq t (.int k x) (.int k y):Sem Value).run P w= .ok (.bool true) w:=by simp [binOp,Op.intCmp,h,eqGuard_geq]
theorem Gl (h: ¬ y<=x):(do eqGuard .geq t xo yo (.int k x) (.int k y);binOp .geq t (.int k x) (.int k y):Sem Value).run P w= .ok (.bool false) w:=by simp [binOp,Op.intCmp,eqGuard_geq];omega
theorem MW (h:x=y):(do eqGuard .eql t xo yo (.int k x) (.int k y);binOp .eql t (.int k x) (.int k y):Sem Value).run P w= .ok (.bool true) w:=by simp [binOp,Op.intCmp,h,eqGuard_at_int]
theorem Gm (h: ¬ x=y):(do eqGuard .eql t xo yo (.int k x) (.int k y);binOp .eql t (.int k x) (.int k y):Sem Value).run P w= .ok (.bool false) w:=by simp [binOp,Op.intCmp,h,eqGuard_at_int]
theorem Gn (h: ¬ x=y):(do eqGuard .neq t xo yo (.int k x) (.int k y);binOp .neq t (.int k x) (.int k y):Sem Value).run P w= .ok (.bool true) w:=by simp [binOp,Op.intCmp,h,eqGuard_at_int]
theorem Ce (h:x=y):(do eqGuard .neq t xo yo (.int k x) (.int k y);binOp .neq t (.int k x) (.int k y):Sem Value).run P w= .ok (.bool false) w:=by simp [binOp,Op.intCmp,h,eqGuard_at_int]
theorem ard:(do eqGuard .gtr t xo yo (.int k x) (.int k y);binOp .gtr t (.int k x) (.int k y):Sem Value).run P w= .ok (.bool (decide (y<x))) w:=by simp [binOp,Op.intCmp,eqGuard_gtr]
theorem wrap64_in {z:Int} (h0: -9223372036854775808<=z) (h1:z<=9223372036854775807):IntKind.i64.wrap z=z:=IntWalk.i64_in _ ⟨h0,h1⟩
theorem lS {z:Int} (hz:x+y=z) (h: -9223372036854775808<=z/\z<=9223372036854775807):(do eqGuard .add t xo yo (iV x) (iV y);binOp .add t (iV x) (iV y):Sem Value).run P w= .ok (iV z) w:=by
 subst hz;simp [binOp,Op.intArith,eqGuard_add,wrap64_in h.1 h.2]
theorem arf {z:Int} (hz:x-y=z) (h: -9223372036854775808<=z/\z<=9223372036854775807):(do eqGuard .sub t xo yo (iV x) (iV y);binOp .sub t (iV x) (iV y):Sem Value).run P w= .ok (iV z) w:=by
 subst hz;simp [binOp,Op.intArith,eqGuard_sub,wrap64_in h.1 h.2]
theorem arh {b:Bool}:(Op.unary .not (.bool b)).run P w= .ok (.bool (!b)) w:=by simp [Op.unary]
theorem F6 {A:Option Addr} {n c:Nat} {e:TypeId} {ts:Array TypeId} {ty:TypeId} {cs:Array Bool} (ht:ts= #[t]) (hu:P.underlying t=some (.slice e)):(builtin .len ts ty cs #[.slice A n c]).run P w= .ok (.value (iV n)) w:=by
 subst ht;simp [builtin,Builtin.len_,run_underlying hu,goInt,Result.andThen]
theorem av {ad:Addr} {ds:TypeDesc} (hu:P.underlying t=some ds) (hd:ds.isRow=false) (hc:w.cell? ad=some v):(Instr.loadAt t (.pointer (some ad))).run P w= .ok v w:=by
 have hagg:(isAgg t).run P w= .ok false w:=by
  unfold isAgg;rw [Sem.run_bind,run_underlying hu w]
  cases ds<;>simp_all
 simp [Instr.loadAt,Instr.sureAddr,loadVar,Sem.run_bind,hagg,Result.andThen,hc]
theorem aA {b off m:Nat} {cs:List Value} {ds:TypeDesc} (hu:P.underlying t=some ds) (hd:ds.isRow=true) (hi:(P.info? t).map (·.size)=some m) (hm:cs.length=m) (hc:w.rangeAt b off cs):(Instr.loadAt t (.pointer (some ⟨b,off,none⟩))).run P w= .ok (.agg cs.toArray) w:=
 run_loadAt_mid w b off t cs ds hc hu hd (by rw [hm];exact hi)
theorem nW {b:Nat} {row:Array Value} {tt:TypeId} {ds:TypeDesc} {m:Nat} (i:Nat) (S:St B w0 w fs) (hi:fs[i]? =some (.blk b row tt)) (hu:P.underlying t=some ds) (hd:ds.isRow=true) (hz:(P.info? t).map (·.size)=some m) (hm:row.size=m):(Instr.loadAt t (.pointer (some ⟨b,0,none⟩))).run P w= .ok (.agg row) w:=by
 simp only [Instr.loadAt,Instr.sureAddr,Sem.run_bind,Sem.run_pure,Result.andThen_ok,eF i S hi hu hd (by rw [hm];exact hz)]
theorem MX {b off m:Nat} {cs:Array Value} (hv:v.cells=cs) (hz:(P.info? t).map (·.size)=some m) (hm:cs.size=m) (h1: ∀ u∈cs.toList,u.oneCell'=true) (ht:w.there b off m):(Instr.storeAt t (.pointer (some ⟨b,off,none⟩)) v).run P w= .ok () (w.setCells b off cs.toList):=by
 subst hm;have:=run_storeCells_cells (P:=P) b off cs.toList 0 w (λj hj=>by simpa using (ht j (by simpa using hj)).1) (λj hj=>by simpa using (ht j (by simpa using hj)).2) h1
 cases hq:P.info? t with
 | none=>simp [hq] at hz
 | some i=>
  have hs:cs.size=i.size:=by simp [hq] at hz;omega
  simp only [Nat.add_zero] at this;simp [Instr.storeAt,Instr.sureAddr,storeVar,Sem.run_bind,sizeOf,typeInfo,hq,hv,hs,this,Result.andThen]
end runs
end
end Go.Proofs.YtnhimdkpkmbhlaaGreatDoor
