import Derived.Test.YtceeleolddkibaaGreatDoorG2a9cf
import Derived.Test.YtceeleolddkibaaGreatDoorG42be3
import Derived.Test.YtceeleolddkibaaGreatDoorGd16b0
import Derived.Test.YtceeleolddkibaaGreatDoorGd45df
set_option linter.all false
set_option maxRecDepth 100000
set_option maxHeartbeats 8000000
namespace Go.Proofs.YtceeleolddkibaaGreatDoor
open List Nat Go.Proofs.Tryz ChangeShapes WideShapes RowKit
def YL(ro ep fr tg rd:Int)(A:Option Addr)(c:Nat)(l:List Ev)(kd qu e pe:Int)(x:Ev)(I:l.length<=c)(w:World)(h:Rd w w.heap.size 6 A l.length (bT l))(J:l.length*48<=reachBytes):
 Calls prog 54 #[.agg #[D ro,D ep,D fr,D tg,D rd,.slice A l.length c],.agg #[D kd,D qu,D e,D pe,D x.kind,D x.Pv,D x.id,D x.body,D x.Qs,D x.Qz]] w (oK w (fH ⟨ro,ep,fr,tg,rd,l⟩ ⟨kd,qu,e,pe,x⟩)):=by
 by_cases M:1<=kd/\kd<=7
 ·rcases(by omega:kd=1\/kd=2\/kd=3\/kd=4\/kd=5\/kd=6\/kd=7)with rfl|rfl|rfl|rfl|rfl|rfl|rfl
  ·exact ajX ro ep fr tg rd A c l qu e pe x I w h J
  ·exact aj9 ro ep fr tg rd A c l qu e pe x I w h J
  ·exact aj8 ro ep fr tg rd A c l qu e pe x I w h J
  ·exact ake ro ep fr tg rd A c l qu e pe x I w h J
  ·exact akb ro ep fr tg rd A c l qu e pe x I w h J
  ·exact akc ro ep fr tg rd A c l qu e pe x I w h J
  exact akd ro ep fr tg rd A c l qu e pe x I w h J
 exact aj7 ro ep fr tg rd A c l kd qu e pe x M w h J
end Go.Proofs.YtceeleolddkibaaGreatDoor
