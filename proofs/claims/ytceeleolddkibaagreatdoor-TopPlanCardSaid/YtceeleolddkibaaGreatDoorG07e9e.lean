import Derived.Test.YtceeleolddkibaaGreatDoorG701e8
set_option linter.all false
set_option maxRecDepth 100000
set_option maxHeartbeats 8000000
namespace Go.Proofs.YtceeleolddkibaaGreatDoor
open List Nat Go.Proofs.Tryz ChangeShapes WideShapes RowKit
def adS(A:Option Addr)(n c:Nat)(l:List Value)(w:World)(h:Rd w w.heap.size 6 A n l)(I:∀u∈l,u.oneCell'=true)(Z:n*64<=reachBytes):
 Calls prog 47 #[.slice A n c] w (kK w 58 6 n l):=by
 unfold reachBytes at Z;have S:=(St.start w).dG h;refine iW 8 func47 ?_;refine cw [0] ?_;refine zN 9 ?_
 cases A with
 |none=>
  obtain⟨rfl,rfl⟩:=LQ h;refine vv (v:=.bool true) (cO E E E (yQ Tryz.underlying59)) ?_;refine zN 11 ?_;exact kK.of (Below.refl _ _) (kC _ _ _ _)
 |some a=>
  refine vv (v:=.bool false) (cO E E E (yQ Tryz.underlying59)) ?_;refine zN 7 ?_;refine uL (V:=λb=>.slice (aD b 0) 0 0) (row:= #[]) (t:=58) (n:=0) (s:=6) (xs:=[]) S (wn E) E E (bq (vs:=[]) E trivial kQ) iQ (aC _) E ?_;intro b1 w2 M;refine zQ ?_;refine eu (news:=l) (xs':=l) 0 M (wn E) E E E E E E (St.rd 1 M E) Tryz.underlying59 atm E dQ I lQ Y E ?_;intro A4 c5 w6 hc8 Ct S7;refine zN 5 ?_;have J:=S7.bg [1];have O:=J.own 0 E;simp only[Nat.zero_add]at O⊢;exact kK.of J.QM O
instance:Au Ac where
 size:=11
 UA x:=x.UA
 of l:=⟨l.getD 0 0,l.getD 1 0,l.getD 2 0,l.getD 3 0,l.getD 4 0,l.getD 5 0,l.getD 6 0,l.getD 7 0,l.getD 8 0,l.getD 9 0,l.getD 10 0⟩
 pos:=Y
 len _:=rfl
 inv xs h:=by
  obtain⟨a1,xs,rfl⟩:=exists_cons_of_length_eq_add_one h;obtain⟨a2,xs,rfl⟩:=exists_cons_of_length_eq_add_one (Nat.succ.inj h);have h:=Nat.succ.inj (Nat.succ.inj h);obtain⟨a3,xs,rfl⟩:=exists_cons_of_length_eq_add_one h;obtain⟨a4,xs,rfl⟩:=exists_cons_of_length_eq_add_one (Nat.succ.inj h);have h:=Nat.succ.inj (Nat.succ.inj h);obtain⟨a5,xs,rfl⟩:=exists_cons_of_length_eq_add_one h;obtain⟨a6,xs,rfl⟩:=exists_cons_of_length_eq_add_one (Nat.succ.inj h);have h:=Nat.succ.inj (Nat.succ.inj h);obtain⟨a7,xs,rfl⟩:=exists_cons_of_length_eq_add_one h;obtain⟨a8,xs,rfl⟩:=exists_cons_of_length_eq_add_one (Nat.succ.inj h);have h:=Nat.succ.inj (Nat.succ.inj h);obtain⟨a9,xs,rfl⟩:=exists_cons_of_length_eq_add_one h;obtain⟨a10,xs,rfl⟩:=exists_cons_of_length_eq_add_one (Nat.succ.inj h);have h:=Nat.succ.inj (Nat.succ.inj h);obtain⟨a11,xs,rfl⟩:=exists_cons_of_length_eq_add_one h;obtain rfl:=eq_nil_of_length_eq_zero (Nat.succ.inj h);rfl
end Go.Proofs.YtceeleolddkibaaGreatDoor
