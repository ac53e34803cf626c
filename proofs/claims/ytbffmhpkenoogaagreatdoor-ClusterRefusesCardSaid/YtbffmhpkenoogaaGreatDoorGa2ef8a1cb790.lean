/- Parts of proofs: lemmas on memory, on single functions and on the plain models; no condition of their own. -/
import Derived.Stop.LaidErr
import Derived.Test.YtbffmhpkenoogaaGreatDoorG1fca51b771ae
import Derived.Test.YtbffmhpkenoogaaGreatDoorGf05bf9cba56a
set_option linter.unusedVariables false
set_option linter.unusedSimpArgs false
set_option linter.unnecessarySimpa false
set_option maxRecDepth 100000
set_option maxHeartbeats 8000000

namespace Go.Proofs.YtbffmhpkenoogaaGreatDoor
open Go.ChangeShapes Go.WideShapes Go.ChangeAt Go.RowKit
theorem axU:Tryz.prog.globalNamed "berthshift/cluster.unknown" =some 1:=by kernel_rfl
theorem abX:(Tryz.prog.globals[1]?).map (·.type)=some 30:=by kernel_rfl
theorem Va {W:World} {nm:String} {g:Nat} {d:DataW Unit} {r:List (String×DataW Unit)} (hn:Tryz.prog.globalNamed nm=some g) (ht:(Tryz.prog.globals[g]?).map (·.type)=some 30) (hdd:d= .agg [.lit (.int .i64 (-1)),.lit (.int .i64 0)]) (h:laidMet Tryz.prog ((nm,d)::r) W):
  W.cell? ⟨g,0,none⟩=some (.int .i64 (-1))∧W.cell? ⟨g,1,none⟩=some (.int .i64 0)∧g<W.heap.size:=by
 subst hdd;obtain ⟨ps,⟨g',t',cs,fuel,p,q,hg',ht',hvar,hd,_,_⟩,_⟩:=h;obtain rfl:=Option.some.inj (hn.symm.trans hg');obtain rfl:=Option.some.inj (ht.symm.trans ht');obtain ⟨y0,y1,n,e,hl,h0,h1⟩:=trod_struct2 Tryz.underlying30 hd;obtain ⟨m0,c0,rfl,_⟩:=DataW.trod_int Tryz.underlying3 h0;obtain ⟨m1,c1,rfl,_⟩:=DataW.trod_int Tryz.underlying3 h1;have e1:m0= -1∧m1=0:=by
  have:=congrArg Prod.fst e;simp at this;exact ⟨this.1.symm,this.2.symm⟩
 obtain ⟨rfl,rfl⟩:=e1;have hc1:Tryz.prog.cellsOf 3=1:=by kernel_rfl
 simp only [hc1] at c0 c1;have k0:cs[0]? =some (.int .i64 (-1)):=by
  have:=congrArg (·[0]?) c0;simpa [List.getElem?_take,List.getElem?_drop] using this
 have k1:cs[1]? =some (.int .i64 0):=by
  have:=congrArg (·[0]?) c1;simpa [List.getElem?_take,List.getElem?_drop] using this
 have a0:=(World.var?_cell hn hvar 0).trans k0;have a1:=(World.var?_cell hn hvar 1).trans k1;exact ⟨a0,a1,lt_of_cell a0⟩
theorem afU {W:World} (h:laidMet Tryz.prog [("berthshift/directory.nowhere",Rows.laid_berthshift_directory_nowhere),("berthshift/cluster.unknown",Rows.laid_berthshift_cluster_unknown)] W):Uk W.heap.size W:=by
 obtain ⟨a,b,c⟩:=Va aax LJ rfl h;obtain ⟨a2,b2,c2⟩:=Va axU abX rfl (laidMet.tail h);exact ⟨a2,b2,c2,a,b,c⟩
def aoz:Obj→Obj
 | .cells _ t frozen=> .cells #[.int .i64 (-1),.int .i64 0] t frozen
 | o=>o
noncomputable def AX (os:Os):World:=
 { World.holding Tryz.prog os ⟨#[],#[],[]⟩ with heap:=((World.holding Tryz.prog os ⟨#[],#[],[]⟩).heap.modify 0 aoz).modify 1 aoz }
end Go.Proofs.YtbffmhpkenoogaaGreatDoor
