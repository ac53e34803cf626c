import Derived.Laws.BitsAllLaws
import Derived.Maps.OwnSet
import Derived.Test.YtnhimdkpkmbhlaaGreatDoorGd6224
set_option maxRecDepth 100000
set_option maxHeartbeats 8000000
set_option linter.unusedSimpArgs false
set_option linter.unusedVariables false
namespace Go.Proofs.YtnhimdkpkmbhlaaGreatDoor
open ChangeShapes WideShapes ChangeAt RowKit ChangeMaps MapKept
open Go.Maps (Keyed IsMap Tidy)
def Gv (v:Value):Option (DataW Value×List MemPlace):=some (.held v,[])
def jE (P:Program) (k:TypeId) (f:Int->Option Value) (n:Nat) (o:Obj):Prop:= ∃ es clock,o= .map es clock/\
 ∀ (w:World) (b:Nat),w.heap[b]? =some o-> ∃ D:DataW Value,w.ownsMap P k Gv b n D/\ ∀ z v,f z=some v-> ∀ zd,D.atKey (.int .i64 z) zd= .held v
section
variable {P:Program} {N:Nat} {l:Slots} {w w' w0:World} {B:Nat} {fs:List Fact} {ops:Array Oper} {o:Oper} {rest:List Oper} {Q:Exit->Act->World->Prop} {d:Nat}
theorem Wm {k:TypeId} {f:Int->Option Value} {n b:Nat} {D:DataW Value} (ho:w.ownsMap P k Gv b n D) (hf: ∀ z v,f z=some v-> ∀ zd,D.atKey (.int .i64 z) zd= .held v): ∃ o,w.heap[b]? =some o/\jE P k f n o:=by
 obtain ⟨es,clock,hb,F,hsz,hD⟩:=ho;exact ⟨_,hb,es,clock,rfl,λw2 b2 h2=>⟨D,⟨es,clock,h2,F,hsz,hD⟩,hf⟩⟩
theorem acD {k:TypeId}:jE P k (λ_=>none) 0 (.map #[] 0):=by
 have h:=World.ownsMap_made default P k Gv;obtain ⟨o,h1,h2⟩:=Wm (f:=λ_=>none) h (λz v hv=>by cases hv);have:(World.alloc default (Obj.map #[] 0)).heap[(default:World).heap.size]? =some (.map #[] 0):=by
  show ((default:World).heap.push _)[_]? =_
  rw [Array.getElem?_push,if_pos rfl]
 rw [this] at h1
 cases h1;exact h2
theorem Ip {t k:TypeId} (S:St B w0 w fs) (hw:Wanted N ops l o true) (hd:o.dst=some d) (hN:Nat.blt d N=true) (ho:o.op= .makeMap t none)
  (h: ∀ b w',St B w0 w' (.loc b (jE P k (λ_=>none) 0)::fs)->wL P N ops Q rest ((d,.map (some b))::l) w'):wL P N ops Q (o::rest) l w:=
 NK hw hd hN (Lj ho (run_makeMap t w)) (h _ _ (S.Pe acD))
theorem acE {t:TypeId} {m x y:Operand} {p q r:Value} (ho:o.op= .insert t m x y) (hm:ev l m=some p) (hx:ev l x=some q) (hy:ev l y=some r) (hr:(Instr.mapUpdate t p q r).run P w= .ok () w'):Eff P N l o w w':=λa F=>by
 unfold execOp;simp [ho,F.ev hm,F.ev hx,F.ev hy,hr,Result.andThen]
theorem kr {t k e:TypeId} {m x y:Operand} {b n:Nat} {f:Int->Option Value} {z:Int} {v:Value} (i:Nat) (S:St B w0 w fs) (hw:Wanted N ops l o true) (hd:o.dst=none) (ho:o.op= .insert t m x y) (hm:ev l m=some (.map (some b))) (hx:ev l x=some (.int .i64 z)) (hy:ev l y=some v)
  (hi:fs[i]? =some (.loc b (jE P k f n))) (hk:P.underlying k=some (.int .i64)) (ht:P.underlying t=some (.map k e)) (hz: -9223372036854775808<=z/\z<=9223372036854775807) (hn:n<maxLen)
  (h: ∀ w',St B w0 w' (fs.set i (.loc b (jE P k (λy=>if y=z then some v else f y) (n+1))))->wL P N ops Q rest l w'):wL P N ops Q (o::rest) l w:=by
 obtain ⟨ob,hb,es,clock,rfl,hall⟩:=S.loc i hi;obtain ⟨D,hown,hf⟩:=hall w b hb;have K:Keyed P k:=Maps.int_keyed hk;have hkey:keyOf P k (.int .i64 z)=some (.int .i64 z):=Maps.keyOf_int_mk hk (by simp [Lit.wf,IntKind.min,IntKind.max,IntKind.signed,IntKind.bits];omega);obtain ⟨w',hrun,hown',htu⟩:=hown.store K ht hn hkey (d:= .held v) (ps:=[]) rfl;have hlk:WideAt.IsKeyLit (.int .i64 z):=trivial;have hmap:=hown.isMap;obtain ⟨o',ho',hR⟩:=Wm (f:=λy=>if y=z then some v else f y) hown' (λy u hu zd=>by
  by_cases e:y=z
  ·subst e;rw [if_pos rfl] at hu
   cases hu;exact Maps.atKey_put_same hmap hlk _ _
  rw [if_neg e] at hu;rw [Maps.atKey_put_other (by simpa using e)];exact hf y u hu zd)
 have hu:sw w b w':=by
  obtain ⟨es1,c1,es2,c2,h1,rfl⟩:=htu;exact ⟨rfl,rfl,rfl,by simp [setBlock],λj hj=>heap_setBlock_other h1 _ hj⟩
 exact Li hw hd (acE ho hm hx hy hrun) (h _ (S.RL i hi hu ho' hR))
theorem iE {t k e:TypeId} {x y:Operand} {b n:Nat} {f:Int->Option Value} {z:Int} {v u:Value} (i:Nat) (S:St B w0 w fs) (ho:o.op= .lookup t x y false) (hx:ev l x=some (.map (some b))) (hy:ev l y=some (.int .i64 z))
  (hi:fs[i]? =some (.loc b (jE P k f n))) (hk:P.underlying k=some (.int .i64)) (ht:P.underlying t=some (.map k e)) (hu:(zeroValue e).run P w= .ok u w) (hz: -9223372036854775808<=z/\z<=9223372036854775807) (hf:f z=some v):fV P N l o w v:=λa F=>by
 obtain ⟨ob,hb,es,clock,rfl,hall⟩:=S.loc i hi;obtain ⟨D,hown,hD⟩:=hall w b hb;have K:Keyed P k:=Maps.int_keyed hk;have hkey:keyOf P k (.int .i64 z)=some (.int .i64 z):=Maps.keyOf_int_mk hk (by simp [Lit.wf,IntKind.min,IntKind.max,IntKind.signed,IntKind.bits];omega);obtain ⟨v',ps,hrun,hR⟩:=hown.lookup K ht hu (zd:= .held u) (zp:=[]) rfl hkey;rw [hD z v hf] at hR;simp only [Gv,Option.some.injEq,Prod.mk.injEq,DataW.held.injEq] at hR;obtain ⟨rfl,_⟩:=hR;unfold execOp;simp [ho,F.ev hx,F.ev hy,hrun,Result.andThen]
end
end Go.Proofs.YtnhimdkpkmbhlaaGreatDoor
