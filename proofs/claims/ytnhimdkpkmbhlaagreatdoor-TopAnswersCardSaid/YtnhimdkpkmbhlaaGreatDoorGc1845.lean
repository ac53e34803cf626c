import Derived.Maps.OwnSet
import Derived.Test.YtnhimdkpkmbhlaaGreatDoorGd6224
set_option maxRecDepth 100000
set_option maxHeartbeats 8000000
set_option linter.unusedSimpArgs false
set_option linter.unusedVariables false
namespace Go.Proofs.YtnhimdkpkmbhlaaGreatDoor
open ChangeShapes WideShapes ChangeAt RowKit ChangeMaps MapKept
open Go.Maps (Keyed IsMap Tidy)
def JW (P:Program) (k:TypeId) (ks:List Int) (o:Obj):Prop:= ∃ es clock,o= .map es clock/\
 ∀ (w:World) (b:Nat),w.heap[b]? =some o-> ∃ D:DataW Unit,w.ownsMap P k unitElem b ks.length D/\(∀ z,Maps.has D (.int .i64 z)=decide (z∈ks))/\Maps.size D<=ks.length/\(Maps.size D<ks.length↔ ¬ ks.Nodup)
section
variable {P:Program} {N:Nat} {l:Slots} {w w' w0:World} {B:Nat} {fs:List Fact} {ops:Array Oper} {o:Oper} {rest:List Oper} {Q:Exit->Act->World->Prop} {d:Nat}
theorem Wj {k:TypeId} {ks:List Int} {b:Nat} {D:DataW Unit} (ho:w.ownsMap P k unitElem b ks.length D) (hh: ∀ z,Maps.has D (.int .i64 z)=decide (z∈ks)) (hs:Maps.size D<=ks.length) (hn:Maps.size D<ks.length↔ ¬ ks.Nodup): ∃ o,w.heap[b]? =some o/\JW P k ks o:=by
 obtain ⟨es,clock,hb,F,hsz,hD⟩:=ho;refine ⟨_,hb,es,clock,rfl,λw2 b2 h2=>⟨D,⟨es,clock,h2,F,hsz,hD⟩,hh,hs,hn⟩⟩
theorem acB {k:TypeId}:JW P k [] (.map #[] 0):=by
 have h:=World.ownsMap_made default P k (unitElem (H:=Unit));obtain ⟨o,h1,h2⟩:=Wj (ks:=[]) h (λz=>by simp [Maps.has_eq]) (by simp [Maps.size_eq]) (by simp [Maps.size_eq]);have:(World.alloc default (Obj.map #[] 0)).heap[(default:World).heap.size]? =some (.map #[] 0):=by
  show ((default:World).heap.push _)[_]? =_
  rw [Array.getElem?_push,if_pos rfl]
 rw [this] at h1
 cases h1;exact h2
theorem UH {t k:TypeId} (S:St B w0 w fs) (hw:Wanted N ops l o true) (hd:o.dst=some d) (hN:Nat.blt d N=true) (ho:o.op= .makeMap t none)
  (h: ∀ b w',St B w0 w' (.loc b (JW P k [])::fs)->wL P N ops Q rest ((d,.map (some b))::l) w'):wL P N ops Q (o::rest) l w:=
 NK hw hd hN (Lj ho (run_makeMap t w)) (h _ _ (S.Pe acB))
theorem UJ {ks:List Int} {z:Int}:(ks++[z]).Nodup↔ks.Nodup/\z ∉ ks:=by
 rw [List.nodup_append]
 constructor
 ·rintro ⟨h1,_,h2⟩;exact ⟨h1,λh=>h2 z h z (by simp) rfl⟩
 rintro ⟨h1,h2⟩;exact ⟨h1,by simp,λa ha b hb e=>by simp at hb;subst hb;subst e;exact h2 ha⟩
theorem Lu {t k e:TypeId} {m x y:Operand} {b:Nat} {ks:List Int} {z:Int} (i:Nat) (S:St B w0 w fs) (hw:Wanted N ops l o true) (hd:o.dst=none) (ho:o.op= .mapUpdate t m x y) (hm:ev l m=some (.map (some b))) (hx:ev l x=some (.int .i64 z)) (hy:ev l y=some (.agg #[]))
  (hi:fs[i]? =some (.loc b (JW P k ks))) (hk:P.underlying k=some (.int .i64)) (ht:P.underlying t=some (.map k e)) (hz: -9223372036854775808<=z/\z<=9223372036854775807) (hn:ks.length<maxLen)
  (h: ∀ w',St B w0 w' (fs.set i (.loc b (JW P k (ks++[z]))))->wL P N ops Q rest l w'):wL P N ops Q (o::rest) l w:=by
 obtain ⟨ob,hb,es,clock,rfl,hall⟩:=S.loc i hi;obtain ⟨D,hown,hh,hs,hnd⟩:=hall w b hb;have K:Keyed P k:=Maps.int_keyed hk;have hkey:keyOf P k (.int .i64 z)=some (.int .i64 z):=Maps.keyOf_int_mk hk (by simp [Lit.wf,IntKind.min,IntKind.max,IntKind.signed,IntKind.bits];omega);obtain ⟨w',hrun,hown',htu⟩:=hown.store K ht hn hkey (unitElem_mk (H:=Unit));have hlk:WideAt.IsKeyLit (.int .i64 z):=trivial;have aik:=hown.tidy K;have hmap:=hown.isMap;obtain ⟨o',ho',hR⟩:=Wj (ks:=ks++[z]) (by simpa using hown') (λy=>by
  by_cases e:y=z
  ·subst e;rw [Maps.has_put_same hmap hlk];simp
  ·rw [Maps.has_put_other (by simpa using e),hh];simp [e]) (by
  rw [Maps.size_put aik];simp
  split<;>omega) (by
  rw [Maps.size_put aik,UJ,hh z];by_cases e:z∈ks
  ·simp [e];omega
  simp [e];omega)
 have hu:sw w b w':=by
  obtain ⟨es1,c1,es2,c2,h1,rfl⟩:=htu;exact ⟨rfl,rfl,rfl,by simp [setBlock],λj hj=>heap_setBlock_other h1 _ hj⟩
 exact Li hw hd (QU ho hm hx hy hrun) (h _ (S.RL i hi hu ho' hR))
theorem acC {t k e:TypeId} {b:Nat} {ks:List Int} (i:Nat) (S:St B w0 w fs) (hi:fs[i]? =some (.loc b (JW P k ks))) (ht:P.underlying t=some (.map k e)) (ty:TypeId): ∃ n:Nat,(∀ cs,(builtin .len #[t] ty cs #[.map (some b)]).run P w= .ok (.value (.int .i64 n)) w)/\n<=ks.length/\(n<ks.length↔ ¬ ks.Nodup):=by
 obtain ⟨ob,hb,es,clock,rfl,hall⟩:=S.loc i hi;obtain ⟨D,hown,hh,hs,hnd⟩:=hall w b hb;refine ⟨Maps.size D,λcs=>?_,hs,hnd⟩;simp [builtin,hown.len ht ty,Sem.run_bind,Result.andThen]
end
end Go.Proofs.YtnhimdkpkmbhlaaGreatDoor
