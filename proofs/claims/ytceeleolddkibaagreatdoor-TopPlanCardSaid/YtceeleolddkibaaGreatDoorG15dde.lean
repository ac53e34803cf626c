import Derived.Test.YtceeleolddkibaaGreatDoorGf7083
set_option linter.all false
set_option maxRecDepth 100000
set_option maxHeartbeats 8000000
namespace Go.Proofs.YtceeleolddkibaaGreatDoor
open List Nat Go.Proofs.Tryz ChangeShapes WideShapes RowKit
def ak7{gs:List Gr}{A:Option Addr}{c m:Nat}{cr:Bool}{s:List Ac}(hs:s=bE gs m cr)(I:m<=1000)(J:∀g∈gs,g.ok)(w:World)(h:Rd w w.heap.size 5 A gs.length (gs.flatMap Gr.cells)):
 Calls prog 4 #[.slice A gs.length c,.int .i64 (m:Int),.bool cr] w (λe w'=> ∃A' c',e=.returned (.slice A' s.length c')/\St w.heap.size w w' [.own 55 11 (.slice A' s.length c') s.length (s.flatMap Ac.cells)]):=by
 subst hs;exact VA I J w h
def ag5{l:List Ac}(h:∀a∈l,dK a=0)(I:l.length<=100000):EY l=0:=by
 rw[Uo Y];clear I
 induction l with
 |nil=>rfl
 |cons a l J=>rw[zf,ah (by rw[h a iT];simp),J λx M=>h x (dZ _ M)]
def aiV{s F:List Ac}{A:Option Addr}{c r:Nat}(I:F=kS s r)(J:r<=100000)(M:s.length<=100000)(w:World)(h:Rd w w.heap.size 11 A s.length (s.flatMap Ac.cells)):
 Calls prog 5 #[.slice A s.length c,.int .i64 (r:Int)] w (λe w'=> ∃A' c',e=.returned (.slice A' F.length c')/\St w.heap.size w w' [.own 55 11 (.slice A' F.length c') F.length (F.flatMap Ac.cells)]):=by
 subst I;exact abK J M w h
def aq8{B:Nat}{w0 w:World}{fs:List Nf}{A:Option Addr}{c:Nat}{F:List Ac}(I:∀a∈F,dK a=0)(J:F.length<=100000)(S:St B w0 w fs)(M:Uk B w0)(h:Ro fs 11 A F.length (F.flatMap Ac.cells)):
 Calls prog 7 #[.slice A F.length c] w (adI B w0 fs F):=agY (ag5 I J) S M h hQ
end Go.Proofs.YtceeleolddkibaaGreatDoor
