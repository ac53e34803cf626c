import Derived.Test.YthhnonpehllibaaGreatDoorG68797
import Derived.Test.YthhnonpehllibaaGreatDoorGa0ece
set_option maxRecDepth 100000
set_option maxHeartbeats 8000000
namespace Go.Proofs.YthhnonpehllibaaGreatDoor
open ChangeShapes WideShapes RowKit
theorem abD (gs:List Gr) {m:Nat} (hm:m<=500) (cr:Bool) (i:Nat): ∃ k,Bs (dZ.run ((aY gs m cr).take i)) k:=by
 have:=xP gs m cr;exact ⟨_,ac9 ((aY gs m cr).take i) akm (λa ha=>ab4 (sI gs m cr a (List.mem_of_mem_take ha))) (by rw [List.length_take];omega)⟩
theorem aiG (gs:List Gr) {m:Nat} (hm:m<=500) (cr:Bool) {i n q:Nat} (hn:n<5) (hq:q<4):au (((dZ.run ((aY gs m cr).take i)).ah n).view q)=0:=by
 obtain ⟨k,B⟩:=abD gs hm cr i;have h:=B.kY n hn
 cases hu:((dZ.run ((aY gs m cr).take i)).ah n).up with
 | true=>obtain ⟨rs,us,hU⟩:=h.Lv hu;rw [gL hu];exact hU.nC q hq
 | false=>rw [show ((dZ.run ((aY gs m cr).take i)).ah n).view=_ from if_neg (by rw [hu];decide)];exact h.Mr.2.1 q hq
theorem Pp (gs:List Gr) {m:Nat} (hm:m<=500) (cr:Bool) {i n q:Nat} (hn:n<5) (hq:q<4):0<=(((dZ.run ((aY gs m cr).take i)).ah n).view q).ep/\(((dZ.run ((aY gs m cr).take i)).ah n).view q).ep<=1048576/\(((dZ.run ((aY gs m cr).take i)).ah n).view q).evs.length<=2000:=by
 have h:=aiG gs hm cr (i:=i) hn hq;have h1:=fP h;have h2:=fZ (dS h).2;unfold bF at h1;exact ⟨by omega,by omega,h2⟩
end Go.Proofs.YthhnonpehllibaaGreatDoor
