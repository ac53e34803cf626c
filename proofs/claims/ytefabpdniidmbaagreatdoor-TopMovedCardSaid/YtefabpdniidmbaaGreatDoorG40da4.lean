import Derived.Test.YtefabpdniidmbaaGreatDoorG57be2
set_option linter.all false
set_option maxRecDepth 100000
set_option maxHeartbeats 8000000
namespace Go.Proofs.YtefabpdniidmbaaGreatDoor
open List Nat Go.Proofs.Tryz ChangeShapes WideShapes RowKit
def dh.fit:dh->Prop
 | .serve q Jp _ _ _=>q<4/\Jp.length<=2000
 | .P8 q _=>q<4
 | .T9 q _ _=>q<4
 | .gy q b _=>q<4/\ay b=0
 | .P5 q _=>q<4
noncomputable def Cl.more(w:Cl)(n:Nat):Cl:=if (w.aj n).OO=none then Cl.drain n (w.aj n).Mv w else w
def Nd.box(X:Nd)(r:List bO):Nd:={X with Mv:=r}
section
variable {m:Cl}{n q:Nat}{X:Nd}{b b':bC}
def DK{α:Type}(f:Nat->α)(k:Nat)(u v:α):PN (PN f k u) k v=PN f k v:=by
 funext j
 unfold PN
 split<;>rfl
def Ep(h:(m.aj n).OO≠none):m.more n=m:=ah h
def MZ(h:(m.aj n).Mv=[]):m.more n=m:=by
 unfold Cl.more;rw[h]
 split<;>rfl
def JL{l:bO}{r:List bO}(h:(m.aj n).OO=none)(h1:(m.aj n).Mv=l::r)(I:l.q<4):m.more n=((m.put n ((m.aj n).box r)).PY n l).more n:=by
 show m.more n=((m.put n {m.aj n with Mv:=r}).PY n l).more n
 have e:=(jG (m:=m.put n {m.aj n with Mv:=r}) (n:=n) (l:=l) I).jk;rw[show(m.put n {m.aj n with Mv:=r}).aj n={m.aj n with Mv:=r}from Jo _ _ _]at e;unfold Cl.more;rw[au h,h1,Cl.drain,e]
def oN(h:(m.aj n).up=false):m.step n=m:=au h
def jy(h:(m.aj n).up=true)(h1:(m.aj n).OO=none):m.step n=if ((m.more n).aj n).OO=none then(m.more n).lu n else m.more n:=by
 unfold Cl.step;rw[ah (by rw[h];simp),h1];unfold Cl.more;rw[au h1]
def Nd.kV(X:Nd):Nd:={X with OY:=X.data.length,OO:=none}
def Nd.aC(X:Nd)(q:Nat)(b:bC):Nd:={X with bs:=PN X.bs q b}
def xK(X:Nd)(q:Nat)(b:bC):(m.put n X).aC n q b=m.put n (X.aC q b):=by
 unfold Cl.aC Cl.put;dsimp only;rw[Jo,DK];rfl
def uG{p:dh}(h:m.aj n=X)(I:X.up=true)(J:X.OO=some p):m.step n=(m.put n X.kV).zY n p:=by
 subst h;unfold Cl.step;rw[ah (by rw[I];simp),J];rfl
def aY(X:Nd):(m.put n X).aj n=X:=Jo _ _ _
def jS{Jp:List Ev}{op:Ev}{num:Int}{a:kE}(h:m.aj n=X)(I:X.up=true)(J:X.OO=some (.serve q Jp op num a))(M:X.bs q=b)(hs:Qc b):
 m.step n={ (m.put n (X.kV.aC q {b with Jp:=Jp}))with bG:=m.bG++[⟨n,q,b.ep,op,a,num⟩],PU:=kM m.PU n q (b.ep,Jp.length),OM:=m.OM++[mg n num a nowhere]}:=by
 rw[uG h I J]
 show((m.put n X.kV).aC n q { ((m.put n X.kV).aj n).bs q with Jp:=Jp}).done n q op num a=_
 rw[aY,xK,show X.kV.bs q=b from M];rw[Hu (b:={b with Jp:=Jp}) (aY _) (Jo _ _ _) hs];rfl
def adV{Jp:List Ev}{op:Ev}{num:Int}{a:kE}(h:m.aj n=X)(I:X.up=true)(J:X.OO=some (.serve q Jp op num a))(M:X.bs q=b)(hs:¬Qc b):
 m.step n={ (m.put n (X.kV.aC q {b with Jp:=Jp}))with OM:=m.OM++[mg n num a (X.PS q)]}:=by
 rw[uG h I J]
 show((m.put n X.kV).aC n q { ((m.put n X.kV).aj n).bs q with Jp:=Jp}).done n q op num a=_
 rw[aY,xK,show X.kV.bs q=b from M];rw[Lj (b:={b with Jp:=Jp}) (aY _) (Jo _ _ _) hs];rfl
def ng(h:m.aj n=X)(I:X.up=true)(J:X.OO=some (.P8 q b)):m.step n={ (m.put n (X.kV.aC q b))with OM:=m.OM++[ou n q b]}:=by
 rw[uG h I J]
 show((m.put n X.kV).aC n q b).TV n q=_
 rw[xK];unfold Cl.TV Cl.send;rw[aY,show(X.kV.aC q b).bs q=b from Jo _ _ _];rfl
def jP(h:m.aj n=X)(I:X.up=true)(J:X.OO=some (.T9 q b true)):
 m.step n={ (m.put n { (X.kV.aC q b)with PZ:=PN X.PZ q false})with bG:=m.bG++[⟨n,q,b.ep,bg,iX,-1⟩],PU:=kM m.PU n q (b.ep,b.Jp.length)}:=by
 rw[uG h I J];unfold Cl.zY;dsimp only;rw[au E,xK];simp only[aY];unfold Cl.Ug Cl.put;dsimp only;rw[DK,Jo]
 show({m with aj:=_,bG:=m.bG++[⟨n,q,((X.kV.aC q b).bs q).ep,bg,iX,-1⟩],PU:=kM m.PU n q (((X.kV.aC q b).bs q).ep,((X.kV.aC q b).bs q).Jp.length)}:Cl)=_
 rw[show(X.kV.aC q b).bs q=b from Jo _ _ _];rfl
def qZ(h:m.aj n=X)(I:X.up=true)(J:X.OO=some (.T9 q b false)):m.step n={ (m.put n (X.kV.aC q b))with OM:=m.OM++[ou n q b]}:=by
 rw[uG h I J];unfold Cl.zY;dsimp only;rw[ah iQ,xK];unfold Cl.TV Cl.send;rw[aY,show(X.kV.aC q b).bs q=b from Jo _ _ _];rfl
def oO{at_:Int}(h:m.aj n=X)(I:X.up=true)(J:X.OO=some (.gy q b at_)):m.step n={ (m.put n (X.kV.aC q b))with OM:=lI n q b at_ m.OM}:=by
 rw[uG h I J]
 show((m.put n X.kV).aC n q b).part n q at_=_
 rw[xK];unfold Cl.part Cl.send lI;rw[aY,show(X.kV.aC q b).bs q=b from Jo _ _ _]
 split
 ·rfl
 rfl
def lK(h:m.aj n=X)(I:X.up=true)(J:X.OO=some (.P5 q b)):m.step n=m.put n (X.kV.aC q b):=by
 rw[uG h I J]
 show(m.put n X.kV).aC n q b=_
 rw[xK]
end
def an8{P:Program}{t e:TypeId}{A:Option Addr}{n c s:Nat}(k:Nat)(J:P.underlying t=some (.slice e))(I:(P.info? e).map (·.size)=some s)(M:k<=n)(w:World):
 (Instr.sliceAt t (.slice A n c) (some (.int .i64 (k:Int))) none none).run P w=.ok (.slice (if c=k then A else A.map (·.add (k*s))) (n-k) (c-k)) w:=by
 obtain⟨z,O,hs⟩:∃z,P.info? e=some z/\z.size=s:=by
  cases h:P.info? e with
  |none=>simp[h]at I
  |some z=>exact⟨z,E,by simpa[h]using I⟩
 have h1:(sizeOf e).run P w=.ok s w:=by simp[sizeOf,typeInfo,O,hs,Sem.run_bind,Result.andThen]
 have Z:=λw=>akA (P:=P) (n:=n) (c:=c) (kd:=.i64) k E M w;simp[Instr.sliceAt,Instr.slice,run_underlying J,Sem.run_bind,Result.andThen,Z,h1]
section
variable {K:CK}{B n:Nat}{w0 w w':World}{fs gs:List OJ}{m:Cl}{H:List LX}{b:bC}{e:Ev}{X:Nd}{rs us:List dN}{t:List UInt8}{f:Nat->bC}{q:Nat}{p:dh}
def Wd.on(h:Wd K B w0 w fs m H)(I:Below w.heap.size w w'):Wd K B w0 w' fs m H:=by
 obtain⟨R,G,S⟩:=h;exact⟨R,G,S.on I⟩
def Wd.ext(h:Wd K B w0 w fs m H)(T:St w.heap.size w w' gs)(I:gs.all OJ.Kz=true):Wd K B w0 w' (gs++fs) m H:=by
 obtain⟨R,G,S⟩:=h;refine⟨R,G,?_⟩;have:=S.ext T I;rwa [<-gP]at this
def Wd.Kr(h:Wd K B w0 w (gs++fs) m H):St B w0 w gs:=by
 obtain⟨R,_,S⟩:=h;exact S.sub (by rw[gP];exact Gi _ _)
def Wd.less(h:Wd K B w0 w (gs++fs) m H):Wd K B w0 w fs m H:=by
 obtain⟨R,G,S⟩:=h;exact⟨R,G,S.sub (by rw[gP];exact sublist_append_right _ _)⟩
def Wd.drew(h:Wd K B w0 w fs m H):Wd K B w0 w.drew fs m H:=by
 obtain⟨R,G,S⟩:=h;exact⟨R,G,S.drew⟩
def vk:∀ {rs:List dN} {l:List UInt8} {s:Int} {d:List UInt8},gH l s rs=some d->d=l++dz rs/\(∀r∈rs,aO r=0)/\(l.length<=100000->d.length<=100000)
 |[],l,s,d,h=>by
  cases h;exact⟨by simp[dz],λr J=>by simp at J,λh=>h⟩
 |r::rs,l,s,d,h=>by
  rw[gH]at h
  split at h
  ·cases h
  rename_i h1
  obtain⟨M,O,h4⟩:=Rb (fE.1 h1);rw[M]at h;obtain⟨Z,h6,h7⟩:=vk h;refine⟨by rw[Z];simp[dz,flatMap_cons],λx I=>?_,λhl=>h7 (by rw[aZ];omega)⟩
  rcases iq.1 I with rfl|I
  ·exact O
  exact h6 x I
def BI:∀ {rs:List dN} {l:List UInt8} {s:Int},(∀r∈rs,aO r=0)->0<=s->s<=l.length->l.length+46*rs.length<=100000->gH l s rs=some (l++dz rs)
 |[],l,s,_,_,_,_=>by simp[gH,dz]
 |r::rs,l,s,h,I,h1,J=>by
  rw[mV]at J;have hw:=ajl (h r iQ) I h1 Y;have:=CY r;rw[gH,hw,ah iQ,BI (λx M=>h x (by simp[M])) I (by rw[aZ];omega) (by rw[aZ];omega)];simp[dz,flatMap_cons]
def an9{Q:Qd}{e:Ev}(h:(jU Q e).2.2.1=true):(jU Q e).2.2.2=0:=by
 unfold jU at h⊢
 split at h
 ·cases h
 rename_i h1
 rw[ah h1]
 split at h
 ·cases h
 rename_i I;rw[ah I]
def aoa{Q:Qd}{e:Ev}(h:(jU Q e).2.2.2=0):bK e=0:=by
 unfold jU at h
 split at h
 ·rename_i h1;exact av h h1
 split at h
 ·rename_i I;exact av h I
 rename_i I;exact fE.1 I
def Df:∀ {n:Nat} {l:List Ev},l.length=n->Ua l-> ∀e∈l,bK e=0
 | 0,l,hn,_,e,he=>by rw[pW.1 hn]at he;simp at he
 |n+1,l,hn,h,e,he=>by
  have I:l=l.take n++[l[n]]:=by rw[<-uF Y,<-hn,jM]
  have J:Ua (l.take n++[l[n]]):=I▸h;rw[I]at he
  rcases aP.1 he with he|he
  ·exact Df (n:=n) (by rw[eD];omega) (xC h) e he
  rw[aF]at he;rw[he];exact aoa (UF J).1
def aa9(h:¬(iK b e).2.2.1=false):ay b=0/\bK e=0/\Qc b/\(jU (aM b.Jp).1 e).2.2.1=true/\b.Jp.length<1999/\e.kind≠4/\iK b e=({b with Jp:=b.Jp++[e]},(jU (aM b.Jp).1 e).2.1,true,0):=by
 unfold iK at h⊢;by_cases c1:ay b≠0
 ·rw[au c1]at h;exact av E h
 rw[ah c1]at h⊢;by_cases c2:bK e≠0
 ·rw[au c2]at h;exact av E h
 rw[ah c2]at h⊢;by_cases c3:e.kind=4
 ·rw[au c3]at h;exact av E h
 rw[ah c3]at h⊢;by_cases J:b.F9=3
 ·rw[au J]at h;exact av E h
 rw[ah J]at h⊢;by_cases M:b.F9≠1/\b.F9≠2
 ·rw[au M]at h;exact av E h
 rw[ah M]at h⊢;by_cases I:(jU (aM b.Jp).1 e).2.2.1=false
 ·rw[au I]at h;exact av E h
 rw[ah I]at h⊢;by_cases O:1999<=b.Jp.length
 ·rw[au O]at h;exact av E h
 rw[ah O];exact⟨fE.1 c1,fE.1 c2,by unfold Qc;omega,by simpa using I,by omega,c3,E⟩
def ajB{ep fr:Int}(h:¬(dV b ep fr).2≠0)(J:¬(dV b ep fr).1.ep=b.ep):(b.F9=0\/b.F9=4)/\b.ep<ep/\1<=ep/\ep<=1048576/\0<=fr/\fr<=4/\dV b ep fr=(⟨4,ep,fr,0,0,[]⟩,0):=by
 unfold dV at h J⊢;by_cases c1:ay b≠0
 ·rw[au c1]at h;exact av c1 h
 rw[ah c1]at h J⊢;by_cases c2:¬(1<=ep/\ep<=1048576/\0<=fr/\fr<=4)
 ·rw[au c2]at h;exact av dQ h
 rw[ah c2]at h J⊢;by_cases c3:b.F9≠0/\b.F9≠4
 ·rw[au c3]at h;exact av dQ h
 rw[ah c3]at h J⊢;by_cases M:b.F9=4/\b.ep=ep/\b.fr=fr
 ·rw[au M]at J;exact av E J
 rw[ah M]at h J⊢;by_cases O:ep<=b.ep
 ·rw[au O]at h;exact av dQ h
 rw[ah O];have I:=fE.1 c2;exact⟨by omega,by omega,I.1,I.2.1,I.2.2.1,I.2.2.2,E⟩
def abb{ep fr:Int}(h:¬(dV b ep fr).2≠0)(I:(dV b ep fr).1.ep=b.ep):b.F9=4/\b.ep=ep/\b.fr=fr:=by
 unfold dV at h I;by_cases c1:ay b≠0
 ·rw[au c1]at h;exact av c1 h
 rw[ah c1]at h I;by_cases c2:¬(1<=ep/\ep<=1048576/\0<=fr/\fr<=4)
 ·rw[au c2]at h;exact av dQ h
 rw[ah c2]at h I;by_cases c3:b.F9≠0/\b.F9≠4
 ·rw[au c3]at h;exact av dQ h
 rw[ah c3]at h I;by_cases J:b.F9=4/\b.ep=ep/\b.fr=fr
 ·exact J
 rw[ah J]at h I;by_cases M:ep<=b.ep
 ·rw[au M]at h;exact av dQ h
 rw[ah M]at I;exact av (show ep=b.ep from I) Y
def Ll(b:bC)(at_:Int)(l:List Ev):List Ev:=b.Jp++l.drop (b.Jp.length-at_.toNat)
def za(b:bC)(at_:Int)(l:List Ev)(last:Bool):bC:=if last=true then⟨1,b.ep,0,0,0,Ll b at_ l++[bg]⟩else{b with Jp:=Ll b at_ l}
def afo{ep at_:Int}{l:List Ev}{last:Bool}(h:¬(dP b ep at_ l last).2≠0):b.F9=4/\b.ep=ep/\0<=at_/\at_<=b.Jp.length/\(b.Jp.drop at_.toNat).take l.length=l.take (b.Jp.length-at_.toNat)/\
  (last=true->b.Jp.length<=at_.toNat+l.length)/\ay (za b at_ l last)=0/\dP b ep at_ l last=(za b at_ l last,0):=by
 unfold dP at h⊢;by_cases c1:ay b≠0
 ·rw[au c1]at h;exact av c1 h
 rw[ah c1]at h⊢;by_cases c2:b.F9≠4
 ·rw[au c2]at h;exact av dQ h
 rw[ah c2]at h⊢;by_cases c3:b.ep≠ep
 ·rw[au c3]at h;exact av dQ h
 rw[ah c3]at h⊢;have J:b.ep=ep:=fE.1 c3;subst J;by_cases M:¬(0<=at_/\at_<=b.Jp.length)
 ·rw[au M]at h;exact av dQ h
 rw[ah M]at h⊢;by_cases O:¬(b.Jp.drop at_.toNat).take l.length=l.take (b.Jp.length-at_.toNat)
 ·rw[au O]at h;exact av dQ h
 rw[ah O]at h⊢;by_cases Z:last=true/\at_.toNat+l.length<b.Jp.length
 ·rw[au Z]at h;exact av dQ h
 rw[ah Z]at h⊢;change ¬(if ay (za b at_ l last)≠0 then(bX,(3:Int))else(za b at_ l last,0)).2≠0 at h
 show _/\_/\_/\_/\_/\_/\_/\(if ay (za b at_ l last)≠0 then(bX,(3:Int))else(za b at_ l last,0))=_
 by_cases c7:ay (za b at_ l last)≠0
 ·rw[au c7]at h;exact av dQ h
 have I:=fE.1 M;rw[ah c7];exact⟨fE.1 c2,E,I.1,I.2,fE.1 O,λhl=>by by_cases h9:at_.toNat+l.length<b.Jp.length;exact av ⟨hl,h9⟩ Z;omega,fE.1 c7,E⟩
def ah7{hv:Int}(h:¬(bY b hv).2≠0):0<=hv/\hv<=b.Jp.length/\((b.F9=3/\bY b hv=(b,0))\/(b.F9=2/\(hv=b.Jp.length\/b.rd=4)/\bY b hv=({b with F9:=3,rd:=0},0))\/(b.F9=2/\ ¬(hv=b.Jp.length\/b.rd=4)/\bY b hv=({b with rd:=b.rd+1},0))):=by
 unfold bY at h⊢;by_cases c1:ay b≠0
 ·rw[au c1]at h;exact av c1 h
 rw[ah c1]at h⊢;by_cases c2:b.F9≠2/\b.F9≠3
 ·rw[au c2]at h;exact av dQ h
 rw[ah c2]at h⊢;by_cases c3:¬(0<=hv/\hv<=b.Jp.length)
 ·rw[au c3]at h;exact av dQ h
 rw[ah c3]at h⊢;have I:=fE.1 c3;refine⟨I.1,I.2,?_⟩;by_cases M:b.F9=3
 ·rw[au M];exact .inl ⟨M,E⟩
 rw[ah M];by_cases J:hv=b.Jp.length\/b.rd=4
 ·rw[au J];exact .inr (.inl ⟨by omega,J,E⟩)
 rw[ah J];exact .inr (.inr ⟨by omega,J,E⟩)
def afp{ep:Int}(h:¬(iw b ep).2≠0):b.F9=3/\b.ep<ep/\iw b ep=(⟨0,b.ep,0,0,0,[]⟩,0):=by
 unfold iw at h⊢;by_cases c1:ay b≠0
 ·rw[au c1]at h;exact av c1 h
 rw[ah c1]at h⊢;by_cases c2:b.F9≠3
 ·rw[au c2]at h;exact av dQ h
 rw[ah c2]at h⊢;by_cases c3:ep<=b.ep
 ·rw[au c3]at h;exact av dQ h
 rw[ah c3];exact⟨fE.1 c2,by omega,E⟩
def aob{ep:Int}(h:¬(jX b ep).2≠0):b.F9=0/\b.ep<ep/\jX b ep=(⟨1,ep,0,0,0,[]⟩,0):=by
 unfold jX at h⊢;by_cases c1:ay b≠0
 ·rw[au c1]at h;exact av c1 h
 rw[ah c1]at h⊢;by_cases c2:¬(1<=ep/\ep<=1048576)
 ·rw[au c2]at h;exact av dQ h
 rw[ah c2]at h⊢;by_cases c3:b.F9≠0
 ·rw[au c3]at h;exact av dQ h
 rw[ah c3]at h⊢;by_cases I:ep<=b.ep
 ·rw[au I]at h;exact av dQ h
 rw[ah I];exact⟨fE.1 c3,by omega,E⟩
def go_ok{tg:Int}(h:(vQ b tg).2=0):b.F9=1/\0<=tg/\tg<=4/\vQ b tg=(⟨2,b.ep,0,tg,0,b.Jp⟩,0):=by
 unfold vQ at h⊢;by_cases c1:ay b≠0
 ·rw[au c1]at h;exact av h c1
 rw[ah c1]at h⊢;by_cases c2:¬(0<=tg/\tg<=4)
 ·rw[au c2]at h;exact av h dQ
 rw[ah c2]at h⊢;by_cases c3:b.F9=2\/b.F9=3
 ·rw[au c3]at h;exact av h dQ
 rw[ah c3]at h⊢;by_cases c4:b.F9≠1
 ·rw[au c4]at h;exact av h dQ
 rw[ah c4]at h⊢;by_cases c5:b.ep=1048576
 ·rw[au c5]at h;exact av h dQ
 rw[ah c5];have c2':=fE.1 c2;exact⟨fE.1 c4,c2'.1,c2'.2,E⟩
def acD(I:b.F9=1)(h:¬(gW b).2≠0):ay ⟨1,b.ep,0,0,0,b.Jp++[bg]⟩=0/\gW b=(⟨1,b.ep,0,0,0,b.Jp++[bg]⟩,0):=by
 unfold gW at h⊢;by_cases c1:ay b≠0
 ·rw[au c1]at h;exact av c1 h
 rw[ah c1]at h⊢;rw[ah Y]at h⊢;by_cases c3:ay ⟨1,b.ep,0,0,0,b.Jp++[bg]⟩≠0
 ·rw[au c3]at h;exact av dQ h
 rw[ah c3];exact⟨fE.1 c3,E⟩
def Rt{hv:Int}(h:¬(jq b hv).2.2≠0):(b.F9=2\/b.F9=3)/\0<=hv/\hv<=b.Jp.length/\jq b hv=((b.Jp.drop hv.toNat).take 3,decide (b.F9=3/\b.Jp.length<=hv.toNat+3),0):=by
 unfold jq at h⊢;by_cases c1:ay b≠0
 ·rw[au c1]at h;exact av c1 h
 rw[ah c1]at h⊢;by_cases c2:b.F9≠2/\b.F9≠3
 ·rw[au c2]at h;exact av dQ h
 rw[ah c2]at h⊢;by_cases c3:¬(0<=hv/\hv<=b.Jp.length)
 ·rw[au c3]at h;exact av dQ h
 rw[ah c3];have I:=fE.1 c3;exact⟨by omega,I.1,I.2,E⟩
structure pG (X:Nd)(rs us:List dN):Prop where
 data:X.data=dz (rs++us)
 OY:X.OY=(dz rs).length
 tape:jK rs λq=>kU (X.bs q)
 mG:∀q,q<4->ay (X.bs q)=0
 sK:X.OO=none->us=[]
 FI:∀p,X.OO=some p->us=p.rs X.bs/\p.ok X.bs/\p.q<4
 len:X.data.length<=100000
structure JM (X:Nd)(rs:List dN)(t:List UInt8)(f:Nat->bC):Prop where
 data:X.data=dz rs++t
 axM:(PV t).2=0
 tape:jK rs f
 mG:∀q,q<4->ay (f q)=0/\(f q).F9≠2
 OY:0<=X.OY/\X.OY<=X.data.length
 len:X.data.length<=100000
 nQ:X.OO=none
 jk:X.Mv=[]
 bz:∀q,q<4->ay (X.bs q)=0
def Tn:ay bX=0:=om (.inl ⟨E,by decide,by decide,E,E,E,E⟩) zu
def JN(X:Nd):Prop:=(X.up=true/\ ∃rs us,pG X rs us)\/(X.up=false/\ ∃rs t f,JM X rs t f)
def JN.uH(h:JN X)(I:X.up=true):∃rs us,pG X rs us:=h.elim (λh=>h.2) λh=>by rw[h.1]at I;cases I
def JN.aFG(h:JN X)(I:X.up=false):∃rs t f,JM X rs t f:=h.elim (λh=>by rw[h.1]at I;cases I) λh=>h.2
def pG.may(h:pG X rs us):dX X.data X.OY=true:=by
 have h1:=h.len;have I:=h.data;rw[nV]at I;have J:=bP length I;rw[aZ]at J;simp only[dX,h.OY,Bool.and_eq_true,decide_eq_true_eq];omega
def JM.may(h:JM X rs t f):dX X.data X.OY=true:=by
 simp only[dX,Bool.and_eq_true,decide_eq_true_eq];exact⟨⟨h.len,h.OY.1⟩,h.OY.2⟩
def JM.rd(h:JM X rs t f):lH X.data X.OY=(dz rs,min X.OY (dz rs).length,0)/\Fb X.data X.OY=some (vB f)/\ ∀q,q<4->dK X.data X.OY q=f q:=h.tape.read h.data h.axM h.len h.OY.1 h.OY.2
def JM.view(h:JM X rs t f)(I:X.up=false)(J:q<4):X.view q=f q:=by
 unfold Nd.view;rw[ah (by rw[I];simp)];exact h.rd.2.2 q J
def fZ(h:X.up=true):X.view=X.bs:=au h
def Pf(bs:Nat->bC)(p:dh)(x:bC):Prop:=
 x=kU (bs p.q)\/x=kU (p.b bs)\/ ∃q b last j,p=.T9 q b last/\x={bs q with Jp:=b.Jp.take ((bs q).Jp.length+j)}/\(bs q).Jp.length+j+(if last=true then 1 else 0)<=b.Jp.length
def Lm{b:bC}(h:b.F9=4\/b.F9=0\/b.F9=3\/b.F9=1):kU b=b:=sW Y
def aoc{bs:Nat->bC}{b:bC}:PN (λq=>kU (bs q)) q (kU b)=λk=>kU (PN bs q b k):=by
 funext k
 unfold PN
 split<;>rfl
def imports{bs:Nat->bC}{ep:Int}{es:List Ev}(h:jK rs λq=>kU (bs q))(hb:ay (bs q)=0)(J:(bs q).F9=4)(iD:(bs q).ep=ep)(M:q<4)(I:Ua es)(he:(bs q).Jp=es.take (bs q).Jp.length):
 ∀j,(bs q).Jp.length+j<=es.length->jK (rs++((es.drop (bs q).Jp.length).take j).map λx=>gZ 5 q ep 0 x) (PN (λq=>kU (bs q)) q {bs q with Jp:=es.take ((bs q).Jp.length+j)})
 | 0,_=>by
  rw[Nat.add_zero,<-he,KQ,map_nil,bI];exact h.congr λk _=>by
   unfold PN
   split
   ·rename_i e;subst e;exact Lm (.inl J)
   rfl
 |j+1,hj=>by
  have ih:=imports h hb J iD M I he j Y;have O:(bs q).Jp.length+j<es.length:=Y;have e1:(es.drop (bs q).Jp.length).take (j+1)=(es.drop (bs q).Jp.length).take j++[es[(bs q).Jp.length+j]]:=by
   rw[uF (by rw[dO];omega),getElem_drop]
  have Z:Ua (es.take ((bs q).Jp.length+j)++[es[(bs q).Jp.length+j]]):=by rw[<-uF O];exact xC I
  have hb2:ay {bs q with Jp:=es.take ((bs q).Jp.length+j)}=0:=om (qh (fI hb) Y _) (xC I);obtain⟨h1,h2,h3⟩:=ae7 (b:={bs q with Jp:=es.take ((bs q).Jp.length+j)}) hb2 J iD M (Df E I _ (Di O)) Z;rw[e1,iP,<-gP];have:=ih.snoc (q:=q) h2 M E (by rw[Jo];exact h1);refine this.congr λk _=>?_;unfold PN
  split
  ·dsimp only;rw[<-uF O,kR]
  rfl
def Ml{bs:Nat->bC}{r:dN}{x:bC}(h:jK rs λq=>kU (bs q))(J:q<4)(M:aO r=0)(I:r.Qg=q)(O:fO (kU (bs q)) r=(kU x,0)):jK (rs++[r]) λk=>kU (PN bs q x k):=by
 rw[<-aoc];exact h.snoc M J I O
def xG{bs:Nat->bC}{b:bC}{last:Bool}(Z:(dh.T9 q b last).ok bs):∃es,Ua es/\(bs q).Jp=es.take (bs q).Jp.length/\(bs q).Jp.length<=es.length/\es=b.Jp.take es.length/\es.length+(if last=true then 1 else 0)=b.Jp.length/\b.ep=(bs q).ep/\
  (dh.T9 q b last).rs bs=((es.drop (bs q).Jp.length).map λx=>gZ 5 q b.ep 0 x)++if last=true then[gZ 6 q b.ep 0 aQ]else[]:=by
 obtain⟨h1,O,h3,h4,h5⟩:=Z;have I:∀ {es:List Ev},(bs q).Jp=es.take (bs q).Jp.length->(bs q).Jp.length<=es.length:=λ{es} h=>by
  have:=bP length h;rw[eD]at this;omega
 cases last with
 |false=>
  obtain⟨M,J⟩:=h4 E;refine⟨b.Jp,O,J,I J,by rw[jM],by simp,by rw[M],?_⟩;unfold dh.rs r9;simp
 |true=>
  obtain⟨es,M,J⟩:=h5 E;subst M;refine⟨es,Wo O,J,I J,by simp,by simp,E,?_⟩;unfold dh.rs r9;simp
def jL(h:jK rs λq=>kU (X.bs q))(hb:∀q,q<4->ay (X.bs q)=0)(M:p.ok X.bs)(J:p.q<4):jK (rs++p.rs X.bs) (λk=>kU (PN X.bs p.q (p.b X.bs) k))/\ay (p.b X.bs)=0:=by
 have I:=hb _ J
 cases p with
 |serve q Jp op num a=>
  obtain⟨h1,h2,h3,h4⟩:=M;have I:ay (X.bs q)=0:=I;have Z:(X.bs q).F9≠0:=by unfold Qc at h1;omega
  have O:ay {X.bs q with Jp:=Jp}=0:=om (qh (fI I) Z _) h4;have hd:=BF h1 I;have hd2:kU {X.bs q with Jp:=Jp}=⟨1,(X.bs q).ep,0,0,0,Jp⟩:=BF (b:={X.bs q with Jp:=Jp}) h1 O;obtain⟨a1,a2⟩:=Wp (b:=kU (X.bs q)) (q:=q) (e:=op) (xD I) (by rw[hd]) YZ J h3 (by rw[an2,<-h2];exact h4);refine⟨Ml h J a2 E ?_,O⟩
  show fO (kU (X.bs q)) (gZ 2 q (X.bs q).ep 0 op)=(kU {X.bs q with Jp:=Jp},0)
  rw[a1,hd2,hd,h2]
 |P8 q b=>
  obtain⟨h1,e,f,rfl,h2,h3,h4,h5,h6⟩:=M;have hd:kU (X.bs q)=X.bs q:=Lm Y;obtain⟨a1,a2⟩:=ajv (q:=q) I h1 h2 ⟨h3,h4⟩ J ⟨h5,h6⟩;refine⟨Ml h J a2 E ?_,om (.inr ⟨h3,h4,.inr (.inr (.inr ⟨E,h5,by show f<5;omega,E,E⟩))⟩) zu⟩
  show fO (kU (X.bs q)) _=_
  rw[hd];exact a1
 |T9 q b last=>
  obtain⟨es,g1,g2,g3,g4,g5,g6,g7⟩:=xG M;have Z:(X.bs q).F9=4:=M.1;have hgb:Ua b.Jp:=M.2.1;have I:ay (X.bs q)=0:=I;have hs:=fI I;unfold bL at hs;have hi:=imports h I Z g6.symm J g1 g2 (es.length-(X.bs q).Jp.length) Y;rw[show(X.bs q).Jp.length+(es.length-(X.bs q).Jp.length)=es.length by omega,jM,kg (by rw[dO];omega)]at hi;rw[g7]
  cases last with
  |false=>
   have e1:=(M.2.2.2.1 E).1;have e2:es=b.Jp:=by rw[g4];simp only[Bool.false_eq_true,if_false,Nat.add_zero]at g5;rw[g5,jM]
   subst e2;simp only[Bool.false_eq_true,if_false,append_nil];have hr0:(X.bs q).F9≠0:=by rw[Z];decide
   have hbk:ay b=0:=by rw[e1];exact om (qh (fI I) hr0 _) hgb
   refine⟨hi.congr λk _=>?_,hbk⟩
   show _=kU (PN X.bs q b k)
   unfold PN
   split
   ·rw[<-e1];exact(Lm (.inl (by rw[e1];exact Z))).symm
   rfl
  |true=>
   obtain⟨es',e1,e2⟩:=M.2.2.2.2 E;have e3:es=es':=by rw[g4,e1];rw[e1]at g5;simp only[if_true,length_append,length_singleton]at g5;rw[show es.length=es'.length by omega];simp
   subst e3;subst e1;have hr0:(X.bs q).F9≠0:=by rw[Z];decide
   have O:ay {X.bs q with Jp:=es}=0:=om (qh (fI I) hr0 _) g1;obtain⟨a1,a2⟩:=auO (b:={X.bs q with Jp:=es}) (q:=q) O Z E J hgb;have hk:=om (b:=⟨1,(X.bs q).ep,0,0,0,es++[bg]⟩) (zZ Y Y _) hgb;simp only[if_true];rw[<-gP];have:=hi.snoc (q:=q) a2 J E (by rw[Jo];exact a1);refine⟨this.congr λk _=>?_,hk⟩
   show _=kU (PN X.bs q _ k)
   unfold PN
   split
   ·rfl
   rfl
 |gy q b at_=>
  obtain⟨h1,rfl⟩:=M;have I:ay (X.bs q)=0:=I;have hs:=fI I;unfold bL at hs;have hd:=BF (.inr h1) I;obtain⟨a1,a2⟩:=an1 (b:=kU (X.bs q)) (q:=q) (tg:=(X.bs q).tg) (xD I) (by rw[hd]) YZ J Y;rw[YZ]at a1;have hbk:ay {X.bs q with F9:=3,rd:=0}=0:=om (.inr ⟨by show 1<=(X.bs q).ep;omega,by show(X.bs q).ep<=_;omega,.inr (.inr (.inl ⟨E,by show(X.bs q).fr=0;omega,by show 0<=(X.bs q).tg;omega,by show(X.bs q).tg<5;omega,E⟩))⟩) (kT (b:=X.bs q) I);refine⟨Ml h J a2 E ?_,hbk⟩
  show fO (kU (X.bs q)) (gZ 3 q (X.bs q).ep (X.bs q).tg aQ)=(kU {X.bs q with F9:=3,rd:=0},0)
  rw[a1,Lm (b:={X.bs q with F9:=3,rd:=0}) (.inr (.inr (.inl E))),hd]
  show((⟨3,(X.bs q).ep,0,(X.bs q).tg,0,(X.bs q).Jp⟩:bC),(0:Int))=(⟨3,(X.bs q).ep,(X.bs q).fr,(X.bs q).tg,0,(X.bs q).Jp⟩,0)
  have:(X.bs q).fr=0:=Y;rw[this]
 |P5 q b=>
  obtain⟨h1,rfl⟩:=M;have I:ay (X.bs q)=0:=I;have hs:=fI I;unfold bL at hs;obtain⟨a1,a2⟩:=ae8 (q:=q) I h1 E J;refine⟨Ml h J a2 E ?_,om (.inl ⟨E,by show 0<=(X.bs q).ep;omega,by show(X.bs q).ep<=_;omega,E,E,E,E⟩) zu⟩
  show fO (kU (X.bs q)) _=_
  rw[Lm (.inr (.inr (.inl h1)))];exact a1
def Y0{bs:Nat->bC}(h:∀q,q<4->ay (bs q)=0)(I:q<4):ay (kU (bs q))=0/\(kU (bs q)).F9≠2:=⟨xD (h q I),MX⟩
def afq(h:jK rs λq=>kU (X.bs q))(Z:∀q,q<4->ay (X.bs q)=0)(hp:p.ok X.bs)(M:p.q<4)(j:Nat):
 ∃f',jK (rs++(p.rs X.bs).take j) f'/\(∀q,q<4->q≠p.q->f' q=kU (X.bs q))/\Pf X.bs p (f' p.q)/\ay (f' p.q)=0/\(f' p.q).F9≠2:=by
 obtain⟨hf,hfb⟩:=jL h Z hp M;have I:∃f',jK (rs++p.rs X.bs) f'/\(∀q,q<4->q≠p.q->f' q=kU (X.bs q))/\Pf X.bs p (f' p.q)/\ay (f' p.q)=0/\(f' p.q).F9≠2:=
  ⟨_,hf,λq _ hne=>by rw[Ox hne],.inr (.inl (by rw[Jo])),by rw[Jo];exact xD hfb,MX⟩
 have zero:∃f',jK (rs++([]:List dN)) f'/\(∀q,q<4->q≠p.q->f' q=kU (X.bs q))/\Pf X.bs p (f' p.q)/\ay (f' p.q)=0/\(f' p.q).F9≠2:=
  ⟨_,by rw[bI];exact h,λ_ _ _=>E,.inl E,xD (Z _ M),MX⟩
 have one:∀r,p.rs X.bs=[r]-> ∃f',jK (rs++(p.rs X.bs).take j) f'/\(∀q,q<4->q≠p.q->f' q=kU (X.bs q))/\Pf X.bs p (f' p.q)/\ay (f' p.q)=0/\(f' p.q).F9≠2:=λr O=>by
  cases j with
  |zero=>rw[KQ];exact zero
  |succ j=>rw[O,kg iQ,<-O];exact I
 cases p with
 |serve q Jp op num a=>exact one _ E
 |P8 q b=>exact one _ E
 |gy q b at_=>exact one _ E
 |P5 q b=>exact one _ E
 |T9 q b last=>
  obtain⟨es,g1,g2,g3,g4,g5,g6,g7⟩:=xG hp;have O:(X.bs q).F9=4:=hp.1;by_cases hj:j<=es.length-(X.bs q).Jp.length
  ·have J:ay (X.bs q)=0:=Z _ M;have hi:=imports h J O g6.symm M g1 g2 j Y;have e1:((dh.T9 q b last).rs X.bs).take j=((es.drop (X.bs q).Jp.length).take j).map λx=>gZ 5 q b.ep 0 x:=by
    rw[g7,AB (by rw[iE,dO];omega),map_take]
   have e2:es.take ((X.bs q).Jp.length+j)=b.Jp.take ((X.bs q).Jp.length+j):=by
    rw[g4,yh,KT Y]
   rw[e1];refine⟨_,hi,λk _ hk=>Ox hk,?_,?_,?_⟩
   ·refine .inr (.inr ⟨q,b,last,j,E,?_,by omega⟩)
    show PN _ q _ q=_
    rw[Jo,e2]
   ·show ay (PN _ q _ q)=0
    rw[Jo];exact om (qh (fI J) Y _) (xC g1)
   show(PN (λq=>kU (X.bs q)) q {X.bs q with Jp:=es.take ((X.bs q).Jp.length+j)} q).F9≠2
   rw[Jo]
   show(X.bs q).F9≠2
   omega
  have:((dh.T9 q b last).rs X.bs).take j=(dh.T9 q b last).rs X.bs:=by
   refine kg ?_;rw[g7,aZ,iE,dO]
   cases last<;>simp<;>omega
  rw[this];exact I
end
def Nd.Uw(X:Nd)(keep:Int):Nd:={X.blank with up:=false,data:=(rT X.data X.OY keep).1,OY:=(rT X.data X.OY keep).2.1}
section
variable {X:Nd}{rs us:List dN}{t:List UInt8}{f:Nat->bC}{q:Nat}{p:dh}{keep:Int}{n:Nat}{Jp:List Ev}{an:List kE}{bs:Nat->bC}{m:Cl}{l:bO}
def ajC(h:pG X rs us)(hk:0<=keep):∃Z t f,JM (X.Uw keep) Z t f/\ ∀q,q<4->f q=kU (X.bs q)\/ ∃p,X.OO=some p/\p.q=q/\Pf X.bs p (f q):=by
 have hm:=h.may;have hd:X.data=dz rs++dz us:=by rw[h.data,nV]
 have hl:=bP length hd;rw[aZ]at hl;have hs:=h.OY;obtain⟨N,h1,h2,e⟩:∃N:Nat,(dz rs).length<=N/\N<=X.data.length/\rT X.data X.OY keep=(X.data.take N,(N:Int),0):=by
  unfold rT;rw[au hm,ah Y];by_cases c:(X.data.length:Int)-X.OY<keep
  ·rw[au c];exact⟨X.data.length,by omega,aB,by rw[jM]⟩
  rw[ah c];refine⟨(X.OY+keep).toNat,by omega,by omega,?_⟩;rw[show(((X.OY+keep).toNat:Nat):Int)=X.OY+keep by omega]
 obtain⟨j,t,g1,g2,g3⟩:=Ra us (N-(dz rs).length) Y;have e2:X.data.take N=dz (rs++us.take j)++t:=by
  rw[hd,take_append,kg h1,g1,nV,gP]
 have J:(X.data.take N).length=N:=by rw[eD];omega
 have O:∀f,jK (rs++us.take j) f->(∀q,q<4->ay (f q)=0/\(f q).F9≠2)->JM (X.Uw keep) (rs++us.take j) t f:=λf hf hb=>by
  have M:(X.Uw keep).data=X.data.take N:=by unfold Nd.Uw;dsimp only;rw[e]
  have hs':(X.Uw keep).OY=N:=by unfold Nd.Uw;dsimp only;rw[e]
  have:=h.len;exact⟨by rw[M,e2],g2,hf,hb,by rw[M,hs',J];omega,by rw[M,J];omega,E,E,λ_ _=>Tn⟩
 cases hp:X.OO with
 |none=>
  have hu:=h.sK hp;refine⟨_,t,λq=>kU (X.bs q),O _ ?_ λq hq=>Y0 h.mG hq,λq _=>.inl E⟩;rw[hu,take_nil,bI];exact h.tape
 |some p=>
  obtain⟨hu,hpo,hq⟩:=h.FI p hp;obtain⟨f',f1,f2,f3,f4,f5⟩:=afq h.tape h.mG hpo hq j;rw[<-hu]at f1;refine⟨_,t,f',O _ f1 λq I=>?_,λq I=>?_⟩
  ·by_cases c:q=p.q
   ·subst c;exact⟨f4,f5⟩
   rw[f2 q I c];exact Y0 h.mG I
  by_cases c:q=p.q
  ·subst c;exact .inr ⟨p,E,E,f3⟩
  exact .inl (f2 q I c)
def rD(b:bC):bC:=⟨1,b.ep,0,0,0,b.Jp++[bg]⟩
def Tp{s:Int}{f:Nat->bC}:∀ {ql:List Nat} {rs:List dN} {g:Nat->bC} {d:List UInt8},ql.Nodup->(∀q∈ql,q<4/\g q=f q)->jK rs g->(∀q,q<4->ay (g q)=0)->(dz rs).length<=100000->gU s f ql (dz rs)=some d->
  ∃ws,d=dz (rs++ws)/\jK (rs++ws) (λq=>if q∈ql/\(f q).F9=1 then rD (f q)else g q)/\d.length<=100000/\ ∀q∈ql,(f q).F9=1->ay (rD (f q))=0/\gW (f q)=(rD (f q),0)
 |[],rs,g,d,_,_,hT,hb,hl,h=>by
  cases h;exact⟨[],by simp,by simpa using hT,hl,by simp⟩
 |q::r,rs,g,d,hnd,hq,hT,hb,hl,h=>by
  rw[gU]at h;obtain⟨h1,h2⟩:=Sr.1 hnd;obtain⟨M,J⟩:=hq q iQ;by_cases c1:(f q).F9≠1
  ·rw[au c1]at h;obtain⟨ws,e1,e2,e3,e4⟩:=Tp h2 (λk I=>hq k (by simp[I])) hT hb hl h;refine⟨ws,e1,e2.congr λk _=>?_,e3,λk I hr=>?_⟩
   ·by_cases e:k=q
    ·subst e;rw[ah (λh=>c1 h.2),ah (λh=>c1 h.2)]
    simp[e]
   rcases iq.1 I with rfl|I
   ·exact av hr c1
   exact e4 k I hr
  rw[ah c1]at h;by_cases c2:(gW (f q)).2≠0
  ·rw[au c2]at h;cases h
  rw[ah c2]at h;have O:=fE.1 c1;obtain⟨k1,k2⟩:=acD O c2
  split at h
  ·cases h
  rename_i d' hw
  obtain⟨w1,w2,w3⟩:=vk hw;have hd':d'=dz (rs++[gZ 2 q (f q).ep 0 bg]):=by rw[w1,nV]
  have Z:=hb q M;obtain⟨a1,a2⟩:=Wp (b:=g q) (q:=q) (e:=bg) Z (by rw[J];exact O) E M dQ (by rw[J];exact(gG k1).2);rw[J]at a1 a2 Z;have hs:=fI Z;unfold bL at hs;have hx:({f q with Jp:=(f q).Jp++[bg]}:bC)=rD (f q):=by
   unfold rD;simp only[bC.mk.injEq,and_true,true_and];omega
  rw[hx]at a1;have hT2:=hT.snoc (q:=q) a2 M E (by rw[J];exact a1);rw[hd']at h;obtain⟨ws,e1,e2,e3,e4⟩:=Tp h2 (g:=PN g q (rD (f q))) (λk I=>⟨(hq k (by simp[I])).1,by rw[Ox (λe:k=q=>h1 (e▸I))];exact(hq k (by simp[I])).2⟩) hT2
   (λk I=>by
    by_cases e:k=q
    ·subst e;rw[Jo];exact k1
    rw[Ox e];exact hb k I) (by rw[<-hd'];exact w3 hl) h
  refine⟨gZ 2 q (f q).ep 0 bg::ws,by rw[e1,gP];rfl,?_,e3,λk I hr=>?_⟩
  ·rw[show rs++gZ 2 q (f q).ep 0 bg::ws=rs++[gZ 2 q (f q).ep 0 bg]++ws by rw[gP];rfl];refine e2.congr λk _=>?_;by_cases e:k=q
   ·subst e;rw[ah (λh=>h1 h.1),Jo,au ⟨by simp,O⟩]
   rw[Ox e];simp[e]
  rcases iq.1 I with rfl|I
  ·exact⟨k1,k2⟩
  exact e4 k I hr
structure wu (m m':Cl):Prop where
 aj:m'.aj=m.aj
 off:m'.off=m.off
 OM:m'.OM=m.OM
 bQ:m'.bQ=m.bQ
 calls:m'.calls=m.calls
def wu.refl(m:Cl):wu m m:=⟨E,E,E,E,E⟩
def wu.trans{a b c:Cl}(h:wu a b)(I:wu b c):wu a c:=⟨I.aj.trans h.aj,I.off.trans h.off,I.OM.trans h.OM,I.bQ.trans h.bQ,I.calls.trans h.calls⟩
def Ru(m:Cl){e:Ev}{a:kE}{u:Int}:wu m (m.Ug n q e a u):=⟨E,E,E,E,E⟩
def Er:∀(il:List Nat) (m:Cl),wu m (m.recovered n q Jp an il)/\(m.recovered n q Jp an il).bG.length=m.bG.length+il.length
 |[],m=>⟨.refl m,E⟩
 |i::r,m=>by
  obtain⟨h1,h⟩:=Er r (m.Ug n q (Jp.getD i aQ) (an.getD i iX) (-1));rw[Cl.recovered];refine⟨(Ru m).trans h1,?_⟩;rw[h];unfold Cl.Ug;simp only[length_append,length_cons,length_nil];omega
def IY(m:Cl)(I:((m.aj n).bs q).Jp.length<=2000):wu m (m.recover n q)/\(m.recover n q).bG.length<=m.bG.length+2000:=by
 unfold Cl.recover
 split
 ·exact⟨Ru m,by simp[Cl.Ug]⟩
 obtain⟨h1,h⟩:=Er (n:=n) (q:=q) (Jp:=((m.aj n).bs q).Jp) (an:=(aM ((m.aj n).bs q).Jp).2.1) ((range ((m.aj n).bs q).Jp.length).drop (m.PU n q).2.toNat) m;refine⟨h1,?_⟩;rw[h,dO,Gx];omega
structure Wx (m m':Cl)(n:Nat)(bs:Nat->bC):Prop where
 aj:m'.aj=PN m.aj n {m.aj n with bs:=bs}
 off:m'.off=m.off
 OM:m'.OM=m.OM
 bQ:m'.bQ=m.bQ
 calls:m'.calls=m.calls
def FR:∀(J:List Nat) (m:Cl),J.Nodup->(∀q∈J,(m.aj n).bs q=bs q/\(bs q).Jp.length<=2000)->
  Wx m (Cl.TY n bs J m) n (λq=>if q∈J/\(bs q).F9=1 then(gW (bs q)).1 else(m.aj n).bs q)/\(Cl.TY n bs J m).bG.length<=m.bG.length+2001*J.length
 |[],m,_,_=>by
  refine⟨⟨?_,E,E,E,E⟩,aB⟩
  show m.aj=_
  refine(aJ ?_).symm;simp
 |q::r,m,hnd,Z=>by
  obtain⟨h1,h2⟩:=Sr.1 hnd;obtain⟨hq1,hq2⟩:=Z q iQ;rw[Cl.TY];by_cases c:(bs q).F9≠1
  ·rw[au c];obtain⟨I,g2⟩:=FR r m h2 λk O=>Z k (by simp[O]);refine⟨⟨?_,I.off,I.OM,I.bQ,I.calls⟩,by rw[mV];omega⟩;rw[I.aj];refine bP (λb=>PN m.aj n {m.aj n with bs:=b}) (funext λk=>?_);by_cases e:k=q
   ·subst e;rw[ah (λh=>c h.2),ah (λh=>c h.2)]
   simp[e]
  rw[ah c];obtain⟨M,r2⟩:=IY (n:=n) (q:=q) m (by rw[hq1];exact hq2);have e1:((((m.recover n q).aC n q (gW (bs q)).1).Ug n q bg iX (-1)).aj)=PN m.aj n {m.aj n with bs:=PN (m.aj n).bs q (gW (bs q)).1}:=by
   show PN (m.recover n q).aj n { (m.recover n q).aj n with bs:=PN ((m.recover n q).aj n).bs q (gW (bs q)).1}=_
   rw[M.aj]
  obtain⟨I,g2⟩:=FR r (((m.recover n q).aC n q (gW (bs q)).1).Ug n q bg iX (-1)) h2 λk O=>by
   rw[e1,Jo];dsimp only;rw[Ox (λe:k=q=>h1 (e▸O))];exact Z k (by simp[O])
  refine⟨⟨?_,I.off.trans M.off,I.OM.trans M.OM,I.bQ.trans M.bQ,I.calls.trans M.calls⟩,?_⟩
  ·rw[I.aj,e1,DK,Jo];refine bP (λb=>PN m.aj n {m.aj n with bs:=b}) (funext λk=>?_)
   show(if k∈r/\(bs k).F9=1 then(gW (bs k)).1 else PN (m.aj n).bs q (gW (bs q)).1 k)=if k∈q::r/\(bs k).F9=1 then(gW (bs k)).1 else(m.aj n).bs k
   by_cases e:k=q
   ·subst e;rw[ah (λh=>h1 h.1),Jo,au ⟨by simp,fE.1 c⟩]
   rw[Ox e];simp[e]
  have:(((m.recover n q).aC n q (gW (bs q)).1).Ug n q bg iX (-1)).bG.length=(m.recover n q).bG.length+1:=by
   unfold Cl.Ug;simp[Cl.aC,Cl.put]
  rw[this]at g2;rw[mV];omega
def Src(b:bC)(l:bO):dh->Prop
 | .serve _ _ op num a=>l.kd=0/\op=l.op/\num=l.num/\a=(jU (aM b.Jp).1 l.op).2.1/\l.op.kind≠4/\b.Jp.length<1999
 | .P8 _ x=>l.kd=2/\x=⟨4,l.ep,l.fr,0,0,[]⟩
 | .T9 _ x last=>l.kd=4/\b.fr=l.fr/\b.ep=l.ep/\0<=l.at_/\l.at_<=b.Jp.length/\(b.Jp.drop l.at_.toNat).take l.Jp.length=l.Jp.take (b.Jp.length-l.at_.toNat)/\b.Jp.length<=l.at_.toNat+l.Jp.length/\last=l.last/\x=za b l.at_ l.Jp l.last
 | .gy _ _ a=>l.kd=3/\b.tg=l.fr/\b.ep+1=l.ep/\a=l.at_/\0<=l.at_/\l.at_<=b.Jp.length
 | .P5 _ _=>l.kd=6/\b.ep<l.ep
inductive Hnd (m:Cl)(n:Nat)(l:bO):Cl->Prop
 |same:Hnd m n l m
 |done (a:kE):l.kd=0->((iK ((m.aj n).bs l.q) l.op).2.2.1=false/\a=(iK ((m.aj n).bs l.q) l.op).2.1\/
   a=rA 14/\Qc ((m.aj n).bs l.q)/\bK l.op=0/\gH (m.aj n).data (m.aj n).OY [gZ 2 l.q ((m.aj n).bs l.q).ep 0 l.op]=none/\Ua (((m.aj n).bs l.q).Jp++[l.op]))->Hnd m n l (m.done n l.q l.op l.num a)
 |TV:((m.aj n).bs l.q).F9=4->Hnd m n l (m.TV n l.q)
 |part (b:bC):l.kd=3->0<=l.at_->l.at_<=((m.aj n).bs l.q).Jp.length->(((m.aj n).bs l.q).F9=2/\b={ (m.aj n).bs l.q with rd:=((m.aj n).bs l.q).rd+1}/\((m.aj n).bs l.q).rd≠4\/((m.aj n).bs l.q).F9=3/\b=(m.aj n).bs l.q)->
   ((m.aj n).bs l.q).tg=l.fr->ay b=0->Hnd m n l ((m.aC n l.q b).part n l.q l.at_)
 |OO (p:dh) (cO:Nd) (d:List UInt8):(cO=m.aj n\/l.kd=6/\cO=(m.aj n).Qf n l)->p.q=l.q->p.ok (m.aj n).bs->gH (m.aj n).data (m.aj n).OY (p.rs (m.aj n).bs)=some d->Src ((m.aj n).bs l.q) l p->Hnd m n l (m.put n {cO with data:=d,OO:=some p})
 |Qf:l.kd=6->Hnd m n l (m.put n ((m.aj n).Qf n l))
def qj{X x:Nd}{rs:List dN}(h:X.write rs=some x):∃d,gH X.data X.OY rs=some d/\x={X with data:=d}:=by
 unfold Nd.write at h;rw[Dn]at h;obtain⟨d,h1,I⟩:=h;exact⟨d,h1,I.symm⟩
def abd{X:Nd}{rs:List dN}(h:X.write rs=none):gH X.data X.OY rs=none:=by
 unfold Nd.write at h;rwa [Option.map_eq_none_iff]at h
def abe{b:bC}{e:Ev}(h:ay b=0)(J:b.Jp.length<1999)(I:(jU (aM b.Jp).1 e).2.2.1=true):Ua (b.Jp++[e]):=Rh (kT h) Y (an9 I) I
def afr(I:l.kd=0):Hnd m n l (m.serve n l):=by
 unfold Cl.serve
 split
 ·rename_i h
  exact .done _ I (.inl ⟨h,E⟩)
 rename_i h
 obtain⟨h1,J,M,h4,O,h6,h7⟩:=aa9 h;have Z:=abe h1 O h4;rw[h7]
 split
 ·rename_i hw
  exact .done _ I (.inr ⟨E,M,J,abd hw,Z⟩)
 rename_i x hw
 obtain⟨d,hd,rfl⟩:=qj hw;exact .OO (.serve l.q (((m.aj n).bs l.q).Jp++[l.op]) l.op l.num (jU (aM ((m.aj n).bs l.q).Jp).1 l.op).2.1) (m.aj n) d (.inl E) E ⟨M,E,J,Z⟩ hd ⟨I,E,E,E,h6,O⟩
def Ym(J:l.kd=2):Hnd m n l (m.TM n l):=by
 unfold Cl.TM
 split
 ·exact .same
 rename_i h
 split
 ·rename_i I
  exact .TV (abb h I).1
 rename_i I
 obtain⟨M,O,Z,h6,h7,h8,h9⟩:=ajB h I;rw[h9]
 split
 ·exact .same
 rename_i x hw
 obtain⟨d,hd,rfl⟩:=qj hw;exact .OO (.P8 l.q ⟨4,l.ep,l.fr,0,0,[]⟩) (m.aj n) d (.inl E) E ⟨M,l.ep,l.fr,E,O,Z,h6,h7,h8⟩ hd ⟨J,E⟩
def abf(hb:ay ((m.aj n).bs l.q)=0)(Z:l.kd=3):Hnd m n l (m.Ud n l):=by
 unfold Cl.Ud
 split
 ·exact .same
 rename_i h0
 split
 ·exact .same
 rename_i h
 obtain⟨h1,h2,h3⟩:=ah7 h;have J:((m.aj n).bs l.q).tg=l.fr:=by
  by_cases e:((m.aj n).bs l.q).tg=l.fr
  ·exact e
  exact av (.inl e) h0
 have iD:((m.aj n).bs l.q).ep+1=l.ep:=by
  by_cases e:((m.aj n).bs l.q).ep+1=l.ep
  ·exact e
  exact av (.inr e) h0
 have I:=DZ hb (fE.1 h)
 rcases h3 with⟨M,O⟩|⟨M,h6,O⟩|⟨M,h6,O⟩
 ·rw[O]at I⊢;rw[au E];exact .part _ Z h1 h2 (.inr ⟨M,E⟩) J I
 ·rw[O,ah (by show ¬(3:Int)=_;omega)]
  split
  ·exact .same
  rename_i x hw
  obtain⟨d,hd,rfl⟩:=qj hw;exact .OO (.gy l.q { (m.aj n).bs l.q with F9:=3,rd:=0} l.at_) (m.aj n) d (.inl E) E ⟨M,E⟩ hd ⟨Z,J,iD,E,h1,h2⟩
 rw[O]at I⊢;rw[au E];exact .part _ Z h1 h2 (.inl ⟨M,E,λe=>h6 (.inr e)⟩) J I
def Rv{b:bC}{at_:Int}{l:List Ev}:b.Jp=(Ll b at_ l).take b.Jp.length:=by unfold Ll;rw[Gf]
def Wz{b:bC}{at_:Int}{l:List Ev}(I:0<=at_)(h1:at_<=b.Jp.length)(h:b.Jp.length<=at_.toNat+l.length):(Ll b at_ l).length=at_.toNat+l.length:=by
 unfold Ll;rw[aZ,dO];omega
def aod(hk:l.kd=4):Hnd m n l (m.T9 n l):=by
 unfold Cl.T9
 split
 ·exact .same
 rename_i h0
 have hr:((m.aj n).bs l.q).F9=4:=by
  by_cases e:((m.aj n).bs l.q).F9=4
  ·exact e
  exact av (.inl e) h0
 have Z:((m.aj n).bs l.q).fr=l.fr:=by
  by_cases e:((m.aj n).bs l.q).fr=l.fr
  ·exact e
  exact av (.inr e) h0
 split
 ·exact .TV hr
 split
 ·exact .same
 rename_i h2 h3
 have h:¬(dP ((m.aj n).bs l.q) l.ep l.at_ l.Jp l.last).2≠0:=λe=>h3 (.inl e);have I:¬(dP ((m.aj n).bs l.q) l.ep l.at_ l.Jp l.last).1.Jp.length=((m.aj n).bs l.q).Jp.length:=λe=>h3 (.inr e);obtain⟨g1,g2,g3,g4,g5,g6,g7,g8⟩:=afo h;rw[g8]at I⊢;have J:((m.aj n).bs l.q).Jp.length<=l.at_.toNat+l.Jp.length:=by
  cases M:l.last with
  |true=>exact g6 M
  |false=>
   unfold za Ll at I;rw[ah (by rw[M];simp)]at I;dsimp only at I;rw[aZ,dO]at I;omega
 have hil:=Wz g3 g4 J;have O:=kT g7;have hrs:(dh.T9 l.q (za ((m.aj n).bs l.q) l.at_ l.Jp l.last) l.last).rs (m.aj n).bs=r9 l.q (za ((m.aj n).bs l.q) l.at_ l.Jp l.last) ((m.aj n).bs l.q).Jp.length (l.at_.toNat+l.Jp.length) l.last:=by
  show r9 _ _ _ _ _=_
  congr 1
  unfold za
  cases l.last with
  |true=>simp only[if_true,length_append,length_singleton];omega
  |false=>simp only[Bool.false_eq_true,if_false];omega
 split
 ·exact .same
 rename_i x hw
 obtain⟨d,hd,rfl⟩:=qj hw;refine .OO (.T9 l.q (za ((m.aj n).bs l.q) l.at_ l.Jp l.last) l.last) (m.aj n) d (.inl E) E ⟨hr,O,Df E O,λM=>?_,λM=>?_⟩ (by rw[hrs];exact hd) ⟨hk,Z,g2,g3,g4,g5,J,E,E⟩
 ·unfold za;rw[M,ah iQ];exact⟨E,Rv⟩
 refine⟨Ll ((m.aj n).bs l.q) l.at_ l.Jp,?_,Rv⟩;unfold za;rw[au M]
def abg(I:l.kd=6):Hnd m n l (m.Ui n l):=by
 unfold Cl.Ui
 split
 ·exact .Qf I
 rename_i h
 obtain⟨h1,J,M⟩:=afp h;rw[M]
 split
 ·exact .Qf I
 rename_i x hw
 obtain⟨d,O,rfl⟩:=qj hw;exact .OO (.P5 l.q ⟨0,((m.aj n).bs l.q).ep,0,0,0,[]⟩) ((m.aj n).Qf n l) d (.inr ⟨I,E⟩) E ⟨h1,E⟩ O ⟨I,J⟩
def hnd(I:∀q,q<4->ay ((m.aj n).bs q)=0)(J:l.ok):Hnd m n l (m.PY n l):=by
 obtain⟨h1,O,M⟩:=J;unfold Cl.PY
 rcases M with h|h|h|h|h
 ·rw[au h];exact afr h
 ·rw[ah Y,au h];exact Ym h
 ·rw[ah Y,ah Y,au h];exact abf (I _ h1) h
 ·rw[ah Y,ah Y,ah Y,au h];exact aod h
 rw[ah Y,ah Y,ah Y,ah Y];exact abg h
end
structure Es (a:Ac):Prop where
 kd:1<=a.kd/\a.kd<=10
 nd:0<=a.nd/\a.nd<=4
 qu:0<=a.qu/\a.qu<=3
 at_:0<=a.at_/\a.at_<=1048576
 kp:0<=a.kp/\a.kp<=100000
 op:a.kd=2->bK a.op=0/\a.op.kind≠4
def agO{x:Ac}(h:dn x=0):Es x:=by
 cases I:dD x.kd x.ek with
 |none=>rw[ab1 I]at h;cases h
 |some l=>
  by_cases J:l.all (QC x)=true
  ·by_cases M:fin x l=UW
   ·have Z:=am8 ((aiN I).2 M);clear h M;obtain⟨kd,nd,qu,at_,kp,ek,ep,ei,eb,eh,en⟩:=x
    rcases kinds kd ek with rfl|rfl|rfl|rfl|rfl|rfl|rfl|rfl|rfl|⟨rfl,rfl⟩|⟨rfl,rfl⟩|⟨rfl,rfl⟩|hn
    all_goals first
     |(dsimp only at I;rw[hn]at I;cases I;done)
     |(simp[dD]at I;subst I;simp[keep]at Z;simp[QC,Ac.get,Ac.TQ]at J;exact⟨by dsimp only;omega,by dsimp only;omega,by dsimp only;omega,by dsimp only;omega,by dsimp only;omega,by(intro O;first|(simp at O;done)|(refine⟨?_,by simp[Ac.op]⟩;simp[Ac.op,bK,mK,Z,J]))⟩)
   rw[Ta I J M]at h;cases h
  rw[MK I J]at h;cases h
def jY(l:bO):Prop:=l.q<4/\l.Jp.length<=3/\(l.tg= -1\/(l.tg= -2/\0<=l.fr/\l.fr<5/\l.kd=5)\/(0<=l.tg/\l.tg<5/\(l.kd=0\/l.kd=2\/l.kd=3\/l.kd=4\/l.kd=6)))/\(l.kd=0->bK l.op=0/\l.op.kind≠4)
def nk{k:Int}{P:Prop}(h:k≠0):k=0->P:=λe=>av e h
def jY.ok{l:bO}(h:jY l)(J:0<=l.tg):l.ok:=by
 obtain⟨h1,M,I|I|I,_⟩:=h
 ·omega
 ·omega
 exact⟨h1,by omega,I.2.2⟩
section
variable {n q:Nat}{b:bC}{u:Int}{a:kE}{p:Pl}
def M0:jY (mg n u a p):=⟨by show 0<4;omega,by show 0<=3;omega,.inl E,nk (by show(1:Int)≠0;decide)⟩
def Tq(h:q<4)(J:b.F9=4)(I:ay b=0):jY (ou n q b):=by
 have hs:=fI I;unfold bL at hs;refine⟨h,by show 0<=3;omega,.inr (.inr ⟨by show 0<=b.fr;omega,by show b.fr<5;omega,.inr (.inr (.inl E))⟩),nk (by show(3:Int)≠0;decide)⟩
def UY(I:b.F9=2\/b.F9=3)(h:ay b=0):0<=b.tg/\b.tg<5:=by
 have hs:=fI h;unfold bL at hs;omega
def aoe{at_:Int}(I:q<4)(J:ay b=0)(h:¬(jq b at_).2.2≠0):jY (IV n q b at_):=by
 obtain⟨h1,h2,h3,M⟩:=Rt h;obtain⟨O,Z⟩:=UY h1 J;refine⟨I,?_,.inr (.inr ⟨O,Z,.inr (.inr (.inr (.inl E)))⟩),nk (by show(4:Int)≠0;decide)⟩
 show(jq b at_).1.length<=3
 rw[M];dsimp only;rw[eD];omega
def ajD(h:q<4)(I:b.F9=2\/b.F9=3)(J:ay b=0):jY (yC n q b):=by
 obtain⟨M,O⟩:=UY I J;exact⟨h,by show 0<=3;omega,.inr (.inr ⟨M,O,.inr (.inl E)⟩),nk (by show(2:Int)≠0;decide)⟩
def auY(h:q<4)(hn:n<5):jY (Rf n q):=⟨h,by show 0<=3;omega,.inr (.inl ⟨E,by show 0<=(n:Int);omega,by show(n:Int)<5;omega,E⟩),nk (by show(5:Int)≠0;decide)⟩
def aof(h:q<4)(hn:n<5):jY (Pb n q b):=⟨h,by show 0<=3;omega,.inr (.inl ⟨E,by show 0<=(n:Int);omega,by show(n:Int)<5;omega,E⟩),nk (by show(5:Int)≠0;decide)⟩
def aog{s:Bool}(I:q<4)(hn:n<5)(J:ay b=0):(∀l∈ig n q b s,jY l)/\(ig n q b s).length<=3:=by
 unfold ig;refine⟨λl h=>?_,?_⟩
 ·rcases aP.1 h with h|h
  ·rcases aP.1 h with h|h
   ·split at h
    ·rename_i M;rw[aF]at h;subst h;exact ajD I M J
    simp at h
   split at h
   ·rw[aF]at h;subst h;exact auY I hn
   simp at h
  split at h
  ·rw[aF]at h;subst h;exact aof I hn
  simp at h
 rw[aZ,aZ]
 split<;>split<;>split<;>simp
end
def Cl.tot(m:Cl):Nat:=m.OM.length+((m.aj 0).Mv.length+((m.aj 1).Mv.length+((m.aj 2).Mv.length+((m.aj 3).Mv.length+(m.aj 4).Mv.length))))
def five{n:Nat}(hn:n<5):n=0\/n=1\/n=2\/n=3\/n=4:=Y
def auZ{m m':Cl}{n d:Nat}(hn:n<5)(I:∀j,j≠n->m'.aj j=m.aj j)(h:m'.OM.length+(m'.aj n).Mv.length<=m.OM.length+(m.aj n).Mv.length+d):m'.tot<=m.tot+d:=by
 unfold Cl.tot
 rcases five hn with rfl|rfl|rfl|rfl|rfl
 ·rw[I 1 dQ,I 2 dQ,I 3 dQ,I 4 dQ];omega
 ·rw[I 0 dQ,I 2 dQ,I 3 dQ,I 4 dQ];omega
 ·rw[I 0 dQ,I 1 dQ,I 3 dQ,I 4 dQ];omega
 ·rw[I 0 dQ,I 1 dQ,I 2 dQ,I 4 dQ];omega
 rw[I 0 dQ,I 1 dQ,I 2 dQ,I 3 dQ];omega
def lM{l:bO}{n:Nat}(h:jY l/\l.tg=n):l.ok:=h.1.ok (by rw[h.2];omega)
def Rw(m:Cl){n:Nat}(hn:n<5):m.OM.length+(m.aj n).Mv.length<=m.tot:=by
 unfold Cl.tot
 rcases five hn with rfl|rfl|rfl|rfl|rfl<;>omega
structure dW (m:Cl)(T S eZ K:Nat):Prop where
 jH:∀n,n<5->JN (m.aj n)
 nD:∀l∈m.OM,jY l
 jk:∀n,n<5-> ∀l∈(m.aj n).Mv,jY l/\l.tg=n
 room:m.tot<=T
 bG:m.bG.length<=S
 bQ:m.bQ.length<=eZ
 turn:∀n,n<5->(m.aj n).turn<=K
 calls:m.calls<=K
def dW.mono{m:Cl}{T S eZ K T' S' D' K':Nat}(h:dW m T S eZ K)(h1:T<=T')(J:S<=S')(M:eZ<=D')(I:K<=K'):dW m T' S' D' K':=
 ⟨h.jH,h.nD,h.jk,gB h.room h1,gB h.bG J,gB h.bQ M,λn hn=>gB (h.turn n hn) I,gB h.calls I⟩
section
variable {m m':Cl}{n:Nat}{l:bO}{rs:List dN}{T S eZ K q:Nat}{g g':Gh}{V:Nat->bC}{P:Nat->Option dh}{U:Nat->Bool}{Lt:bO->Prop}{pl:Pl}{sh:Nat->Int×Int}{sv:List l9}{X:Nd}{us:List dN}{ls:List bO}{m2:Cl}{k:Nat}{g2:Gh}
def dW.at_(h:dW m T S eZ K)(hn:n<5)(M:∀j,j≠n->m'.aj j=m.aj j)(O:JN (m'.aj n))(Z:∀l∈m'.OM,l∈m.OM\/jY l)(hi:∀l∈(m'.aj n).Mv,l∈(m.aj n).Mv\/(jY l/\l.tg=n))
  {c s d u:Nat} (h1:m'.OM.length+(m'.aj n).Mv.length<=m.OM.length+(m.aj n).Mv.length+c) (h2:m'.bG.length<=m.bG.length+s) (h3:m'.bQ.length<=m.bQ.length+d) (h4:(m'.aj n).turn<=(m.aj n).turn+u) (h5:m'.calls<=m.calls+u):dW m' (T+c) (S+s) (eZ+d) (K+u):=by
 refine⟨λj I=>?_,λl J=>(Z l J).elim (h.nD l) id,λj I=>?_,?_,?_,?_,λj I=>?_,?_⟩
 ·by_cases e:j=n
  ·subst e;exact O
  rw[M j e];exact h.jH j I
 ·by_cases e:j=n
  ·subst e;exact λl J=>(hi l J).elim (h.jk j I l) id
  rw[M j e];exact h.jk j I
 ·have:=auZ hn M h1;have:=h.room;omega
 ·have:=h.bG;omega
 ·have:=h.bQ;omega
 ·by_cases e:j=n
  ·subst e;have:=h.turn j I;omega
  rw[M j e];have:=h.turn j I;omega
 have:=h.calls;omega
structure Keep (m m':Cl):Prop where
 bQ:m'.bQ=m.bQ
 calls:m'.calls=m.calls
 off:m'.off=m.off
def Keep.refl(m:Cl):Keep m m:=⟨E,E,E⟩
def Keep.trans{a b c:Cl}(h:Keep a b)(I:Keep b c):Keep a c:=⟨I.bQ.trans h.bQ,I.calls.trans h.calls,I.off.trans h.off⟩
def uI{q:Nat}{op:Ev}{u:Int}{a:kE}:Keep m (m.done n q op u a)/\(m.done n q op u a).aj=m.aj/\ ∃l,jY l/\(m.done n q op u a).OM=m.OM++[l]:=by
 unfold Cl.done
 split
 ·exact⟨⟨E,E,E⟩,E,_,M0,E⟩
 exact⟨⟨E,E,E⟩,E,_,M0,E⟩
def oP{q:Nat}{a:Int}:Keep m (m.part n q a)/\(m.part n q a).aj=m.aj/\(m.part n q a).OM=lI n q ((m.aj n).bs q) a m.OM:=by
 unfold Cl.part lI
 split
 ·exact⟨⟨E,E,E⟩,E,E⟩
 exact⟨⟨E,E,E⟩,E,E⟩
def Rx{q:Nat}{b:bC}{a:Int}{fl:List bO}(J:q<4)(M:ay b=0):∀l∈lI n q b a fl,l∈fl\/jY l:=λl I=>by
 unfold lI at I
 split at I
 ·exact .inl I
 rename_i h
 rcases aP.1 I with I|I
 ·exact .inl I
 rw[aF]at I;subst I;exact .inr (aoe J M h)
def afs{q:Nat}{b:bC}{a:Int}{fl:List bO}:(lI n q b a fl).length<=fl.length+1:=by
 unfold lI
 split
 ·omega
 simp
def Dg{fl:List bO}{x:bO}(I:jY x):∀l∈fl++[x],l∈fl\/jY l:=λl h=>by
 rcases aP.1 h with h|h
 ·exact .inl h
 rw[aF]at h;subst h;exact .inr I
def au0(M:l.q<4)(h:pG (m.aj n) rs [])(hp:(m.aj n).OO=none)(H:Hnd m n l m'):(∃us,pG (m'.aj n) rs us)/\(∀x∈m'.OM,x∈m.OM\/jY x)/\Keep m m':=by
 cases H with
 |same=>exact⟨⟨_,h⟩,λx J=>.inl J,.refl m⟩
 |done a h1 h2=>
  obtain⟨O,I,l',h5,Z⟩:=uI (m:=m) (n:=n) (q:=l.q) (op:=l.op) (u:=l.num) (a:=a);exact⟨⟨[],by rw[I];exact h⟩,by rw[Z];exact Dg h5,O⟩
 |TV h1=>exact⟨⟨[],h⟩,Dg (Tq M h1 (h.mG _ M)),⟨E,E,E⟩⟩
 |part b h1 h2 O I h5 Z=>
  obtain⟨g1,g2,g3⟩:=oP (m:=m.aC n l.q b) (n:=n) (q:=l.q) (a:=l.at_);have e:(m.aC n l.q b).aj n=(m.aj n).aC l.q b:=aY _;refine⟨⟨[],?_⟩,?_,?_⟩
  ·rw[g2,e];refine⟨h.data,h.OY,h.tape.congr λk hk=>?_,λk hk=>?_,h.sK,λp hp'=>?_,h.len⟩
   ·show kU ((m.aj n).bs k)=kU (PN (m.aj n).bs l.q b k)
    by_cases e:k=l.q
    ·rw[e,Jo]
     rcases I with⟨I,h7,_⟩|⟨_,h7⟩
     ·rw[h7];unfold kU;rw[au I,au I]
     rw[h7]
    rw[Ox e]
   ·show ay (PN (m.aj n).bs l.q b k)=0
    by_cases e:k=l.q
    ·rw[e,Jo];exact Z
    rw[Ox e];exact h.mG k hk
   exact av (hp'.symm.trans hp) iQ
  ·rw[g3,e,show((m.aj n).aC l.q b).bs l.q=b from Jo _ _ _];exact Rx M Z
  exact(⟨E,E,E⟩:Keep m (m.aC n l.q b)).trans g1
 |OO p cO d h1 h2 O I h5=>
  obtain⟨w1,w2,w3⟩:=vk I;have hY:cO.bs=(m.aj n).bs/\cO.OY=(m.aj n).OY:=by rcases h1 with h1|⟨_,h1⟩<;>rw[h1]<;>exact⟨E,E⟩
  refine⟨⟨p.rs (m.aj n).bs,?_⟩,λx J=>.inl J,⟨E,E,E⟩⟩;rw[aY];refine⟨?_,hY.2.trans h.OY,?_,?_,λe=>(by cases e),λp' e=>?_,w3 h.len⟩
  ·show d=_;rw[w1,h.data,bI,nV]
  ·dsimp only;rw[hY.1];exact h.tape
  ·dsimp only;rw[hY.1];exact h.mG
  cases e;dsimp only;rw[hY.1];exact⟨E,O,by rw[h2];exact M⟩
 |Qf h1=>
  refine⟨⟨[],?_⟩,λx J=>.inl J,⟨E,E,E⟩⟩;rw[aY];exact⟨h.data,h.OY,h.tape,h.mG,h.sK,h.FI,h.len⟩
def og{n:Nat}(P:Cl->Prop)(I:∀m l r,P m->(m.aj n).OO=none->(m.aj n).Mv=l::r->l.q<4/\P ((m.put n ((m.aj n).box r)).PY n l)):∀(k:Nat) (m:Cl),(m.aj n).Mv.length=k->P m->P (m.more n):=by
 intro k
 induction k with
 |zero=>
  intro m J h;rw[MZ (pW.1 J)];exact h
 |succ k Z=>
  intro m J h
  cases M:(m.aj n).OO with
  |some p=>rw[Ep (by rw[M];simp)];exact h
  |none=>
   cases hi:(m.aj n).Mv with
   |nil=>rw[hi]at J;simp at J
   |cons l r=>
    obtain⟨O,h2⟩:=I m l r h M hi;rw[JL M hi O];have e:=(jG (m:=m.put n ((m.aj n).box r)) (n:=n) (l:=l) O).jk;have e2:((m.put n ((m.aj n).box r)).aj n).Mv=r:=by rw[aY];rfl
    exact Z _ (by rw[e,e2];rw[hi]at J;simpa using J) h2
structure Kt (m0:Cl)(n:Nat)(rs:List dN)(m:Cl):Prop where
 up:(m.aj n).up=true
 tape:∃us,pG (m.aj n) rs us
 oM:∀j,j≠n->m.aj j=m0.aj j
 nD:∀l∈m.OM,l∈m0.OM\/jY l
 jk:∀l∈(m.aj n).Mv,l∈(m0.aj n).Mv
 cnt:m.OM.length+(m.aj n).Mv.length<=m0.OM.length+(m0.aj n).Mv.length
 bG:m.bG.length+(m.aj n).Mv.length<=m0.bG.length+(m0.aj n).Mv.length
 keep:Keep m0 m
 IW:(m.aj n).turn=(m0.aj n).turn
def ahS{X:Nd}{r:List bO}{us:List dN}(h:pG X rs us):pG (X.box r) rs us:=⟨h.data,h.OY,h.tape,h.mG,h.sK,h.FI,h.len⟩
def oh{m1:Cl}{r:List bO}(hi:∀l∈(m.aj n).Mv,l.ok)(H:Kt m n rs m1)(hp:(m1.aj n).OO=none)(h:(m1.aj n).Mv=l::r):
 l.ok/\pG ((m1.put n ((m1.aj n).box r)).aj n) rs []/\Hnd (m1.put n ((m1.aj n).box r)) n l ((m1.put n ((m1.aj n).box r)).PY n l)/\Kt m n rs ((m1.put n ((m1.aj n).box r)).PY n l):=by
 have hl:l∈(m1.aj n).Mv:=by rw[h];simp
 have I:=hi l (H.jk l hl);obtain⟨us,hU⟩:=H.tape;have Z:=hU.sK hp;subst Z;have hq:=I.1;have M:(m1.put n ((m1.aj n).box r)).aj n=(m1.aj n).box r:=aY _;have J:pG ((m1.put n ((m1.aj n).box r)).aj n) rs []:=by rw[M];exact ahS hU
 have hH:=hnd J.mG I;refine⟨I,J,hH,?_⟩;have mP:=jG (m:=m1.put n ((m1.aj n).box r)) (n:=n) (l:=l) hq;obtain⟨g1,g2,g3⟩:=au0 hq J (by rw[M];exact hp) hH;have ei:=mP.jk;rw[M]at ei;have e1:(m1.put n ((m1.aj n).box r)).OM=m1.OM:=rfl;have e2:(m1.put n ((m1.aj n).box r)).bG=m1.bG:=rfl;have e3:((m1.aj n).box r).Mv=r:=rfl;have c1:=H.cnt;have c2:=H.bG;have c3:=mP.OM;have c4:=mP.bG;rw[h,mV]at c1 c2;rw[e1]at c3;rw[e2]at c4;refine⟨by rw[mP.up,M];exact H.up,g1,λj hj=>?_,λx O=>(g2 x O).elim (H.nD x) .inr,λx O=>?_,?_,?_,H.keep.trans ((⟨E,E,E⟩:Keep m1 (m1.put n ((m1.aj n).box r))).trans g3),by rw[mP.IW,M];exact H.IW⟩
 ·rw[mP.oM j hj]
  show PN m1.aj n _ j=_
  rw[Ox hj];exact H.oM j hj
 ·rw[ei,e3]at O;exact H.jk x (by rw[h];simp[O])
 ·rw[ei,e3];omega
 rw[ei,e3];omega
def zx(I:(m.aj n).up=true)(h:∃us,pG (m.aj n) rs us):Kt m n rs m:=⟨I,h,λ_ _=>E,λ_ h=>.inl h,λ_ h=>h,aB,aB,.refl m,E⟩
def M4(J:(m.aj n).up=true)(h:∃us,pG (m.aj n) rs us)(hi:∀l∈(m.aj n).Mv,l.ok):Kt m n rs (m.more n):=
 og (n:=n) (Kt m n rs) (λ_ _ _ H M I=>by obtain⟨h1,_,_,O⟩:=oh hi H M I;exact⟨h1.1,O⟩) _ m E (zx J h)
def Cr{X:Nd}{p:dh}(J:m.aj n=X)(h:X.up=true)(M:X.OO=some p)(O:p.q<4)(Z:ay (p.b X.bs)=0)(I:p.ok X.bs):
 ∃cO:Nd,(m.step n).aj=PN m.aj n cO/\cO.bs=PN X.bs p.q (p.b X.bs)/\cO.data=X.data/\cO.OY=X.data.length/\cO.OO=none/\cO.up=true/\cO.Mv=X.Mv/\cO.turn=X.turn/\Keep m (m.step n)/\
   (∀l∈(m.step n).OM,l∈m.OM\/jY l)/\(m.step n).OM.length<=m.OM.length+1/\(m.step n).bG.length<=m.bG.length+1:=by
 cases p with
 |serve q Jp op num a=>
  rw[jS J h M E I.1];exact⟨_,E,E,E,E,E,h,E,E,⟨E,E,E⟩,Dg M0,by simp,by simp⟩
 |P8 q b=>
  rw[ng J h M];obtain⟨_,e,f,rfl,_⟩:=I;exact⟨_,E,E,E,E,E,h,E,E,⟨E,E,E⟩,Dg (Tq O E Z),by simp,by simp[Cl.put]⟩
 |T9 q b last=>
  cases last with
  |true=>
   rw[jP J h M];exact⟨_,E,E,E,E,E,h,E,E,⟨E,E,E⟩,λl hl=>.inl hl,by simp[Cl.put],by simp⟩
  |false=>
   rw[qZ J h M];have hr:b.F9=4:=by
    have:=(I.2.2.2.1 E).1;rw[this];exact I.1
   exact⟨_,E,E,E,E,E,h,E,E,⟨E,E,E⟩,Dg (Tq O hr Z),by simp,by simp[Cl.put]⟩
 |gy q b at_=>
  rw[oO J h M];exact⟨_,E,E,E,E,E,h,E,E,⟨E,E,E⟩,Rx O Z,afs,by simp[Cl.put]⟩
 |P5 q b=>
  rw[lK J h M];exact⟨_,E,E,E,E,E,h,E,E,⟨E,E,E⟩,λl hl=>.inl hl,by simp[Cl.put],by simp[Cl.put]⟩
def aft{X cO:Nd}{p:dh}{us:List dN}(h:pG X rs us)(O:X.OO=some p)(J:cO.bs=PN X.bs p.q (p.b X.bs))(M:cO.data=X.data)(hs:cO.OY=X.data.length)(hn:cO.OO=none):pG cO (rs++us) []:=by
 obtain⟨Z,I,hq⟩:=h.FI p O;obtain⟨h1,h2⟩:=jL h.tape h.mG I hq;refine⟨by rw[M,h.data,bI],by rw[hs,h.data],?_,λk hk=>?_,λ_=>E,λp' e=>(by rw[hn]at e;cases e),by rw[M];exact h.len⟩
 ·rw[J,Z];exact h1
 rw[J];by_cases e:k=p.q
 ·rw[e,Jo];exact h2
 rw[Ox e];exact h.mG k hk
def Ry(h:dW m T S eZ K)(hn:n<5):dW (m.step n) (T+3) (S+T+1) eZ (K+1):=by
 cases M:(m.aj n).up with
 |false=>rw[oN M];exact h.mono Y Y Y Y
 |true=>
  obtain⟨rs,us,O⟩:=(h.jH n hn).uH M;have hT:=Rw m hn;have hT2:=h.room
  cases hp:(m.aj n).OO with
  |some p=>
   obtain⟨h1,h2,h3⟩:=O.FI p hp;obtain⟨_,hf⟩:=jL O.tape O.mG h2 h3;obtain⟨cO,y1,y2,y3,y4,y5,y6,y7,y8,y9,y10,y11,y12⟩:=Cr E M hp h3 hf h2;have eY:(m.step n).aj n=cO:=by rw[y1];exact Jo _ _ _
   have hUY:=aft O hp y2 y3 y4 y5;refine(h.at_ (c:=1) (s:=1) (d:=0) (u:=0) hn (λj hj=>by rw[y1,Ox hj]) ?_ y10 ?_ ?_ y12 (by rw[y9.bQ];omega) (by rw[eY,y8];omega) (by rw[y9.calls];omega)).mono Y Y Y Y
   ·rw[eY];exact .inl ⟨y6,_,_,hUY⟩
   ·rw[eY,y7];exact λl J=>.inl J
   rw[eY,y7];omega
  |none=>
   have R:=M4 M ⟨us,O⟩ λl J=>lM (h.jk n hn l J);have c:=R.cnt;have c2:=R.bG;obtain⟨Z,I⟩:=R.tape;rw[jy M hp]
   split
   ·rename_i hp2
    have e:(((m.more n).lu n).aj n)={ (m.more n).aj n with turn:=((m.more n).aj n).turn+1}:=aY _;have hqq:((m.more n).aj n).turn % 4<4:=mod_lt _ dQ;obtain⟨d1,d2⟩:=aog (n:=n) (s:=((m.more n).aj n).PZ (((m.more n).aj n).turn % 4)) hqq hn (I.mG _ hqq);refine(h.at_ (c:=3) (s:=T) (d:=0) (u:=1) hn (λj hj=>?_) ?_ (λl J=>?_) ?_ ?_ ?_ ?_ ?_ ?_).mono Y Y Y Y
    ·show PN (m.more n).aj n _ j=_
     rw[Ox hj];exact R.oM j hj
    ·rw[e];exact .inl ⟨R.up,rs,Z,⟨I.data,I.OY,I.tape,I.mG,I.sK,I.FI,I.len⟩⟩
    ·rcases aP.1 J with J|J
     ·exact R.nD l J
     exact .inr (d1 l J)
    ·rw[e];exact λl J=>.inl (R.jk l J)
    ·rw[e]
     show((m.more n).OM++_).length+((m.more n).aj n).Mv.length<=_
     rw[aZ];have:=d2;omega
    ·show(m.more n).bG.length<=_;omega
    ·show(m.more n).bQ.length<=_;rw[R.keep.bQ];omega
    ·rw[e];show((m.more n).aj n).turn+1<=_;rw[R.IW];exact aB
    show(m.more n).calls<=_;rw[R.keep.calls];omega
   refine(h.at_ (c:=0) (s:=T) (d:=0) (u:=0) hn R.oM (.inl ⟨R.up,rs,Z,I⟩) R.nD (λl J=>.inl (R.jk l J)) Y Y (by rw[R.keep.bQ];omega) (by rw[R.IW];omega) (by rw[R.keep.calls];omega)).mono Y Y Y Y
def JO(h:dW m T S eZ K)(O:jY l):dW (m.P6 l) (T+1) S (eZ+1) K:=by
 have M:=h.room;have J:∀fl,({m with OM:=fl}:Cl).tot+m.OM.length=m.tot+fl.length:=λfl=>by unfold Cl.tot;dsimp only;omega
 obtain⟨hq,hv,h1|⟨h1,Z,h3,_⟩|⟨h1,Z,h3⟩,_⟩:=id O
 ·have e:m.P6 l={m with bQ:=m.bQ++[l.bQ]}:=au h1;rw[e];exact⟨h.jH,h.nD,h.jk,by show m.tot<=_;omega,h.bG,by show(m.bQ++_).length<=_;have:=h.bQ;simp;omega,h.turn,h.calls⟩
 ·unfold Cl.P6;rw[ah Y,au h1]
  split
  ·refine⟨h.jH,λx I=>?_,h.jk,?_,h.bG,by have:=h.bQ;show m.bQ.length<=_;omega,h.turn,h.calls⟩
   ·rcases aP.1 I with I|I
    ·exact h.nD x I
    rw[aF]at I;subst I;exact⟨hq,by show 0<=3;omega,.inr (.inr ⟨Z,h3,.inr (.inr (.inr (.inr E)))⟩),nk (by show(6:Int)≠0;decide)⟩
   have:=J (m.OM++[mE l.fr l.q (aN (eu m.off l) l.q).1]);rw[aZ,l8]at this
   show Cl.tot {m with OM:=_}<=_
   omega
  exact⟨h.jH,h.nD,h.jk,by show m.tot<=_;omega,h.bG,by have:=h.bQ;show m.bQ.length<=_;omega,h.turn,h.calls⟩
 have hn:l.tg.toNat<5:=Y;unfold Cl.P6;rw[ah Y,ah Y]
 split
 ·rename_i hu
  have e:(m.put l.tg.toNat {m.aj l.tg.toNat with Mv:=(m.aj l.tg.toNat).Mv++[l]}).aj l.tg.toNat=(m.aj l.tg.toNat).box ((m.aj l.tg.toNat).Mv++[l]):=aY _;obtain⟨rs,us,hU⟩:=(h.jH _ hn).uH hu;refine(h.at_ (m':=m.put l.tg.toNat {m.aj l.tg.toNat with Mv:=(m.aj l.tg.toNat).Mv++[l]}) (c:=1) (s:=0) (d:=0) (u:=0) hn (λj hj=>Ox hj) (by rw[e];exact .inl ⟨hu,rs,us,ahS hU⟩) (λx I=>.inl I) ?_ ?_ aB aB (by rw[e];exact aB) aB).mono Y Y Y Y
  ·rw[e];intro x I
   rcases aP.1 I with I|I
   ·exact .inl I
   rw[aF]at I;subst I;exact .inr ⟨O,by omega⟩
  rw[e]
  show m.OM.length+((m.aj l.tg.toNat).Mv++[l]).length<=_
  rw[aZ,l8];omega
 exact h.mono Y Y Y Y
def Ob:∀(ls:List bO) {m:Cl} {T eZ:Nat},dW m T S eZ K->(∀l∈ls,jY l)->dW (ls.foldl Cl.P6 m) (T+ls.length) S (eZ+ls.length) K
 |[],m,T,eZ,h,_=>h
 |l::ls,m,T,eZ,h,I=>(Ob ls (JO h (I l iQ)) λx J=>I x (by simp[J])).mono jQ aB jQ aB
def WA(h:dW m T S eZ K):dW m.all T S (eZ+T) K:=by
 have I:=h.room;have J:dW {m with OM:=[]} (T-m.OM.length) S eZ K:=by
  refine⟨h.jH,λl M=>by simp at M,h.jk,?_,h.bG,h.bQ,h.turn,h.calls⟩;unfold Cl.tot at I⊢;dsimp only[length_nil];omega
 have O:m.OM.length<=T:=by unfold Cl.tot at I;omega
 exact(Ob m.OM J h.nD).mono Y aB Y aB
def afu{at_:Nat}{c s:Bool}(h:dW m T S eZ K):dW (m.pick at_ c s) (T+1) S (eZ+1) K:=by
 unfold Cl.pick
 split
 ·exact h.mono Y Y Y Y
 rename_i l I
 have J:jY l:=h.nD l (jN I);have h1:dW (if s=true then m else{m with OM:=m.OM.eraseIdx (at_ % m.OM.length)}) T S eZ K:=by
  split
  ·exact h
  refine⟨h.jH,λx M=>h.nD x (Lp M),h.jk,?_,h.bG,h.bQ,h.turn,h.calls⟩;have:=h.room;have O:=acE m.OM (at_ % m.OM.length);unfold Cl.tot at this⊢;dsimp only;omega
 dsimp only
 split
 ·exact JO h1 J
 exact h1.mono Y Y Y Y
def afv{q:Nat}(h:dW m T S eZ K)(hn:n<5)(J:q<4):dW (m.make n q) T S eZ K:=by
 unfold Cl.make
 split
 ·exact h
 rename_i Z
 have hu:(m.aj n).up=true:=by
  cases e:(m.aj n).up with
  |true=>rfl
  |false=>exact av (.inl e) Z
 have hp:(m.aj n).OO=none:=by
  cases e:(m.aj n).OO with
  |none=>rfl
  |some p=>exact av (.inr (.inl (by rw[e];rfl))) Z
 split
 ·exact h
 rename_i h1
 obtain⟨h2,h3,h4⟩:=aob h1;rw[h4]
 split
 ·exact h
 rename_i x hw
 obtain⟨d,hd,rfl⟩:=qj hw;obtain⟨rs,us,I⟩:=(h.jH n hn).uH hu;have M:=I.sK hp;subst M;obtain⟨w1,w2,w3⟩:=vk hd;obtain⟨_,a2⟩:=Tk (q:=q) (I.mG q J) h2 h3 J;have O:ay ⟨1,1,0,0,0,[]⟩=0:=om (zZ Y Y _) zu;refine h.at_ (m':={m.put n {m.aj n with data:=d,OY:=d.length,bs:=PN (m.aj n).bs q ⟨1,1,0,0,0,[]⟩}with off:=(uX m.off q n).1,PU:=kM m.PU n q (1,0)}) (c:=0) (s:=0) (d:=0) (u:=0) hn (λj hj=>Ox hj) ?_ (λx hx=>.inl hx) ?_ ?_ aB aB ?_ aB
 ·refine .inl ⟨?_,rs++[gZ 1 q 1 0 aQ],[],?_⟩
  ·show(PN m.aj n _ n).up=true;rw[Jo];exact hu
  show pG (PN m.aj n _ n) _ _
  rw[Jo];refine⟨?_,?_,?_,λk hk=>?_,λ_=>E,λp e=>?_,w3 I.len⟩
  ·show d=_;rw[w1,I.data,bI,bI,nV]
  ·show(d.length:Int)=_;rw[w1,I.data,bI,nV]
  ·refine Ml (x:=⟨1,1,0,0,0,[]⟩) I.tape J (w2 _ iQ) E ?_;rw[Lm (.inr (.inl h2)),a2];rfl
  ·show ay (PN (m.aj n).bs q _ k)=0
   by_cases e:k=q
   ·rw[e,Jo];exact O
   rw[Ox e];exact I.mG k hk
  exact av (e.symm.trans hp) iQ
 ·show ∀l∈(PN m.aj n _ n).Mv,_;rw[Jo];exact λl hl=>.inl hl
 ·show m.OM.length+(PN m.aj n _ n).Mv.length<=_;rw[Jo];exact aB
 show(PN m.aj n _ n).turn<=_;rw[Jo];exact iR _
def qm{d:TW}{q:Int}(h:¬(aN d q).2≠0):(aN d q).1.node.toNat<5/\0<=(aN d q).1.node/\(aN d q).1=d.at q.toNat:=by
 obtain⟨h1,Z,M,O,I⟩:=Ki (fE.1 h);unfold zP at I
 rcases I with⟨I,J⟩|I
 ·exfalso
  apply O;generalize aN d q=r at*;obtain⟨⟨a,b⟩,c⟩:=r;dsimp only at I J⊢;rw[I,J];rfl
 exact⟨by omega,by omega,M⟩
def acF{bs:Nat->bC}{q:Nat}{p:dh}{tg:Int}(I:(bs q).F9=1)(h:p.ok bs):p.rs (PN bs q ⟨2,(bs q).ep,0,tg,0,(bs q).Jp⟩)=p.rs bs/\p.ok (PN bs q ⟨2,(bs q).ep,0,tg,0,(bs q).Jp⟩):=by
 cases p with
 |serve k Jp op num a=>
  simp only[dh.ok,dh.rs]at h⊢;by_cases e:k=q
  ·subst e;rw[Jo];exact⟨E,.inr E,h.2⟩
  rw[Ox e];exact⟨E,h⟩
 |P8 k b=>
  simp only[dh.ok]at h⊢;refine⟨E,?_⟩;by_cases e:k=q
  ·subst e;exfalso;have:=h.1;omega
  rw[Ox e];exact h
 |T9 k b last=>
  simp only[dh.ok,dh.rs]at h⊢;by_cases e:k=q
  ·subst e;exfalso;have:=h.1;omega
  rw[Ox e];exact⟨E,h⟩
 |gy k b a=>
  simp only[dh.ok]at h⊢;refine⟨E,?_⟩;by_cases e:k=q
  ·subst e;exfalso;have:=h.1;omega
  rw[Ox e];exact h
 |P5 k b=>
  simp only[dh.ok,dh.rs]at h⊢;by_cases e:k=q
  ·subst e;exfalso;have:=h.1;omega
  rw[Ox e];exact⟨E,h⟩
def Rz{q:Nat}{tg:Int}(h:dW m T S eZ K)(hq:q<4):dW (m.move q tg) T S eZ K:=by
 unfold Cl.move
 split
 ·exact h
 rename_i h0
 have hw:¬(aN m.off q).2≠0:=λe=>h0 (.inl e);obtain⟨hn,_,_⟩:=qm hw;have hu:(m.aj (aN m.off q).1.node.toNat).up=true:=by
  cases e:(m.aj (aN m.off q).1.node.toNat).up with
  |true=>rfl
  |false=>exact av (.inr (.inr e)) h0
 generalize hnn:(aN m.off q).1.node.toNat=n at*
 split
 ·rename_i h1
  obtain⟨g1,g2,g3,g4⟩:=go_ok h1.1;rw[g4];obtain⟨rs,us,hU⟩:=(h.jH n hn).uH hu;have hs:=fI (hU.mG q hq);unfold bL at hs;have hok:ay ⟨2,((m.aj n).bs q).ep,0,tg,0,((m.aj n).bs q).Jp⟩=0:=om (.inr ⟨by dsimp only;omega,by dsimp only;omega,.inr (.inl ⟨E,E,g2,by dsimp only;omega,by dsimp only;omega,by dsimp only;omega⟩)⟩) (kT (b:=(m.aj n).bs q) (hU.mG q hq));have hd:∀k,kU ((m.aj n).bs k)=kU (PN (m.aj n).bs q ⟨2,((m.aj n).bs q).ep,0,tg,0,((m.aj n).bs q).Jp⟩ k):=λk=>by
   by_cases e:k=q
   ·rw[e,Jo,BF (.inl g1) (hU.mG q hq)];rfl
   rw[Ox e]
  have e:((m.aC n q ⟨2,((m.aj n).bs q).ep,0,tg,0,((m.aj n).bs q).Jp⟩).aj n)=(m.aj n).aC q ⟨2,((m.aj n).bs q).ep,0,tg,0,((m.aj n).bs q).Jp⟩:=aY _;refine h.at_ (m':=m.aC n q ⟨2,((m.aj n).bs q).ep,0,tg,0,((m.aj n).bs q).Jp⟩) (c:=0) (s:=0) (d:=0) (u:=0) hn (λj hj=>Ox hj) ?_ (λx hx=>.inl hx) (by rw[e];exact λl hl=>.inl hl) (by rw[e];exact aB) aB aB (by rw[e];exact aB) aB;rw[e];refine .inl ⟨hu,rs,us,⟨hU.data,hU.OY,hU.tape.congr λk _=>hd k,λk hk=>?_,hU.sK,λp hp=>?_,hU.len⟩⟩
  ·show ay (PN (m.aj n).bs q _ k)=0
   by_cases e:k=q
   ·rw[e,Jo];exact hok
   rw[Ox e];exact hU.mG k hk
  obtain⟨p1,p2,p3⟩:=hU.FI p hp;exact⟨by rw[p1];exact(acF (tg:=tg) g1 p2).1.symm,(acF (tg:=tg) g1 p2).2,p3⟩
 exact h
def abh{keep:Int}(h:dW m T S eZ K)(hn:n<5)(M:0<=keep):dW (m.UZ n keep) T S eZ K:=by
 unfold Cl.UZ
 split
 ·rename_i O
  obtain⟨rs,us,Z⟩:=(h.jH n hn).uH O;obtain⟨I,t,f,J,_⟩:=ajC Z M;have e:(m.put n ((m.aj n).Uw keep)).aj n=(m.aj n).Uw keep:=aY _;refine h.at_ (m':=m.put n ((m.aj n).Uw keep)) (c:=0) (s:=0) (d:=0) (u:=0) hn (λj hj=>Ox hj) (by rw[e];exact .inr ⟨E,I,t,f,J⟩) (λx hx=>.inl hx) ?_ ?_ aB aB ?_ aB
  ·rw[e,J.jk];simp
  ·rw[e,J.jk];show m.OM.length+0<=_;omega
  rw[e];exact aB
 exact h
def Yn(h:JN (m.aj n)):(m.aj n).up=true/\m.start n=m\/(m.aj n).up=false/\ ∃rs t f,JM (m.aj n) rs t f/\(m.start n=m\/ ∃ws,
  let m1:=m.put n { (m.aj n).blank with up:=true,data:=dz (rs++ws),OY:=(dz (rs++ws)).length,bs:=dK (m.aj n).data (m.aj n).OY}
  m.start n=Cl.TY n (dK (m.aj n).data (m.aj n).OY) [0,1,2,3] m1/\(dz (rs++ws)).length<=100000/\
  gU (lH (m.aj n).data (m.aj n).OY).2.1 (dK (m.aj n).data (m.aj n).OY) [0,1,2,3] (lH (m.aj n).data (m.aj n).OY).1=some (dz (rs++ws))/\
  Wx m1 (m.start n) n (λq=>if q∈[0,1,2,3]/\(dK (m.aj n).data (m.aj n).OY q).F9=1 then rD (dK (m.aj n).data (m.aj n).OY q)else dK (m.aj n).data (m.aj n).OY q)/\
  (m.start n).bG.length<=m.bG.length+8004/\pG ((m.start n).aj n) (rs++ws) []/\
  ∀q,q<4->(f q).F9=1->ay (rD (f q))=0):=by
 cases hu:(m.aj n).up with
 |true=>exact .inl ⟨E,by unfold Cl.start;rw[au hu]⟩
 |false=>
  refine .inr ⟨E,?_⟩;obtain⟨rs,t,f,M⟩:=h.aFG hu;refine⟨rs,t,f,M,?_⟩;obtain⟨r1,r2,r3⟩:=M.rd;have J:m.start n=match gU (lH (m.aj n).data (m.aj n).OY).2.1 (dK (m.aj n).data (m.aj n).OY) [0,1,2,3] (lH (m.aj n).data (m.aj n).OY).1 with
   |none=>m
   |some d=>Cl.TY n (dK (m.aj n).data (m.aj n).OY) [0,1,2,3] (m.put n { (m.aj n).blank with up:=true,data:=d,OY:=d.length,bs:=dK (m.aj n).data (m.aj n).OY}):=by
   unfold Cl.start;rw[ah (by rw[hu];simp)]
   all_goals rfl
  cases hw:gU (lH (m.aj n).data (m.aj n).OY).2.1 (dK (m.aj n).data (m.aj n).OY) [0,1,2,3] (lH (m.aj n).data (m.aj n).OY).1 with
  |none=>rw[hw]at J;exact .inl J
  |some d=>
   rw[hw]at J;refine .inr ?_;have O:∀q∈[0,1,2,3],q<4:=by decide
   have hin:∀q,q<4->q∈[0,1,2,3]:=by decide
   have hll:(dz rs).length<=100000:=by
    have h1:=M.len;rw[M.data,aZ]at h1;omega
   have hw':=hw;rw[r1]at hw';obtain⟨ws,e1,e2,e3,e4⟩:=Tp (g:=f) dQ (λq I=>⟨O q I,(r3 q (O q I)).symm⟩) M.tape (λq I=>(M.mG q I).1) hll hw';subst e1;refine⟨ws,J,e3,E,?_⟩;have hev:∀q∈[0,1,2,3],(dK (m.aj n).data (m.aj n).OY q).Jp.length<=2000:=λq I=>by
    rw[r3 q (O q I)];exact mF (kT (M.mG q (O q I)).1)
   obtain⟨g1,g2⟩:=FR (n:=n) (bs:=dK (m.aj n).data (m.aj n).OY) [0,1,2,3] (m.put n { (m.aj n).blank with up:=true,data:=dz (rs++ws),OY:=(dz (rs++ws)).length,bs:=dK (m.aj n).data (m.aj n).OY}) dQ λq I=>⟨by rw[aY],hev q I⟩;have hbs:(λq=>if q∈[0,1,2,3]/\(dK (m.aj n).data (m.aj n).OY q).F9=1 then(gW (dK (m.aj n).data (m.aj n).OY q)).1 else((m.put n { (m.aj n).blank with up:=true,data:=dz (rs++ws),OY:=(dz (rs++ws)).length,bs:=dK (m.aj n).data (m.aj n).OY}).aj n).bs q)=
     λq=>if q∈[0,1,2,3]/\(dK (m.aj n).data (m.aj n).OY q).F9=1 then rD (dK (m.aj n).data (m.aj n).OY q)else dK (m.aj n).data (m.aj n).OY q:=by
    funext q
    rw[aY];by_cases c:q∈[0,1,2,3]/\(dK (m.aj n).data (m.aj n).OY q).F9=1
    ·rw[au c,au c,(e4 q c.1 c.2).2]
    rw[ah c,ah c]
   have Z:m.start n=Cl.TY n (dK (m.aj n).data (m.aj n).OY) [0,1,2,3] (m.put n { (m.aj n).blank with up:=true,data:=dz (rs++ws),OY:=(dz (rs++ws)).length,bs:=dK (m.aj n).data (m.aj n).OY}):=J;rw[hbs,<-Z]at g1;rw[<-Z]at g2;refine⟨g1,g2,?_,λq I hr=>?_⟩
   ·have e:(m.start n).aj n={ (m.aj n).blank with up:=true,data:=dz (rs++ws),OY:=(dz (rs++ws)).length,bs:=λq=>if q∈[0,1,2,3]/\(dK (m.aj n).data (m.aj n).OY q).F9=1 then rD (dK (m.aj n).data (m.aj n).OY q)else dK (m.aj n).data (m.aj n).OY q}:=by
     rw[g1.aj,Jo,aY]
    rw[e];have hbb:∀q,q<4->ay (if q∈[0,1,2,3]/\(dK (m.aj n).data (m.aj n).OY q).F9=1 then rD (dK (m.aj n).data (m.aj n).OY q)else dK (m.aj n).data (m.aj n).OY q)=0:=λq I=>by
     split
     ·rename_i c;exact(e4 q c.1 c.2).1
     rw[r3 q I];exact(M.mG q I).1
    refine⟨by rw[bI],E,e2.congr λq I=>?_,hbb,λ_=>E,λp hp=>(by cases hp),e3⟩;dsimp only;by_cases c:q∈[0,1,2,3]/\(dK (m.aj n).data (m.aj n).OY q).F9=1
    ·rw[au c,au c];rfl
    rw[ah c,ah c,r3 q I];exact(sW (M.mG q I).2).symm
   have:=(e4 q (hin q I) (by rw[r3 q I];exact hr)).1;rwa [r3 q I]at this
def base_start(h:dW m T S eZ K)(hn:n<5):dW (m.start n) T (S+8004) eZ K:=by
 rcases Yn (h.jH n hn)with⟨_,e⟩|⟨hu,rs,t,f,hd,e|⟨ws,e1,e2,e3,W,Z,e6,e7⟩⟩
 ·rw[e];exact h.mono Y Y Y Y
 ·rw[e];exact h.mono Y Y Y Y
 have J:=W.aj;have I:(m.start n).aj n={ (m.aj n).blank with up:=true,data:=dz (rs++ws),OY:=(dz (rs++ws)).length,bs:=λq=>if q∈[0,1,2,3]/\(dK (m.aj n).data (m.aj n).OY q).F9=1 then rD (dK (m.aj n).data (m.aj n).OY q)else dK (m.aj n).data (m.aj n).OY q}:=by
  rw[J,Jo,aY]
 refine h.at_ (c:=0) (s:=8004) (d:=0) (u:=0) hn (λj M=>?_) (.inl ⟨by rw[I],rs++ws,[],e6⟩) (λx O=>.inl (by rw[W.OM]at O;exact O)) (by rw[I];intro l hl;exact av hl (by simp[Nd.blank])) ?_ Z (by rw[W.bQ];exact aB) ?_ (by rw[W.calls];exact aB)
 ·rw[J,Ox M];exact Ox M
 ·rw[I,W.OM];show m.OM.length+0<=_;omega
 rw[I];exact iR _
def afw{l:bO}(h:dW m T S eZ K)(J:jY l):dW {m with OM:=m.OM++[l],calls:=m.calls+1} (T+1) S eZ (K+1):=by
 have M:=h.room;refine⟨h.jH,λx I=>?_,h.jk,?_,h.bG,h.bQ,λn hn=>DL (h.turn n hn),by have:=h.calls;show m.calls+1<=_;omega⟩
 ·rcases aP.1 I with I|I
  ·exact h.nD x I
  rw[aF]at I;subst I;exact J
 unfold Cl.tot at M⊢;dsimp only;rw[aZ,l8];omega
def WC{a:Ac}(h:dW m T S eZ K)(M:Es a):dW (m.Ub a) (T+3) (S+T+8004) (eZ+T+1) (K+1):=by
 obtain⟨h1,O,h3,h4,Z,h6⟩:=M;have hn:a.nd.toNat<5:=Y;have I:a.qu.toNat<4:=Y;unfold Cl.Ub
 split
 ·exact(afv h hn I).mono Y Y Y Y
 split
 ·rename_i J
  exact(afw h ⟨I,by show 0<=3;omega,.inr (.inr ⟨O.1,by show a.nd<5;omega,.inl E⟩),λ_=>h6 J⟩).mono Y Y Y Y
 split
 ·exact(Ry h hn).mono Y Y Y Y
 split
 ·exact(afu h).mono Y Y Y Y
 split
 ·exact(WA h).mono Y Y Y Y
 split
 ·exact(abh h hn Z.1).mono Y Y Y Y
 split
 ·exact(base_start h hn).mono Y Y Y Y
 exact(Rz h I).mono Y Y Y Y
def Bs(m:Cl)(k:Nat):Prop:=dW m (4*k) (500000*k) (500000*k) k
def arD:Bs lT 0:=by
 refine⟨λn _=>.inl ⟨E,[],[],⟨E,E,jK.nil,λq _=>by show ay bX=0;exact om (.inl ⟨E,by decide,by decide,E,E,E,E⟩) zu,λ_=>E,λp I=>(by cases I),aG _⟩⟩,λl h=>(by cases h),λn _ l h=>(by cases h),aB,aB,aB,λ_ _=>aB,aB⟩
def IZ{m:Cl}{k:Nat}{a:Ac}(h:Bs m k)(I:Es a)(J:k<=100000):Bs (m.Ub a) (k+1):=by
 have:=WC h I;exact this.mono Y Y Y Y
def ahT:∀(l:List Ac) {m:Cl} {k:Nat},Bs m k->(∀a∈l,Es a)->k+l.length<=100000->Bs (m.run l) (k+l.length)
 |[],m,k,h,_,_=>h
 |a::l,m,k,h,I,J=>by
  rw[mV]at J;have:=ahT l (IZ h (I a iQ) Y) (λx M=>I x (by simp[M])) Y;rw[mV,show k+(l.length+1)=k+1+l.length by omega];exact this
def ah8{B kn kw bb n turn calls dc ic fc sc tc:Nat}{up:Bool}{dA iA fA sA tA:Option Addr}{data:List UInt8}{OY:Int}{Hh:Nat->Pl}{Us:Nat->Bool}{pv nv:Value}{d:TW}{sh:Nat->Nat->Int×Int}{bs:List BX}{ix fx:List LX}{bG:List l9}{tl:List tZ}{w0 w:World}{fs:List OJ}{q b1 b2 b3 b4 b5 b6 b7:Nat}{h:BX}{x:LX}{a:kE}(hn:n<5)(hq:q<4){y:BX}(hy:bs[q]? =some y)(S:St B w0 w (nF kn n up dA data dc OY bb Hh Us iA ix ic pv turn bs (wF kw nv d fA fx fc sh sA bG sc tA tl tc calls fs)))(hm1:OJ.Oy b1 (BX.cells h).toArray 42∈fs)(hm2:OJ.Oy b2 #[jh kn] 98∈fs)(JJ:OJ.Oy b3 #[D (q:Int)] 3∈fs)(PE:OJ.Oy b4 #[.func (.func 87) #[] #[jh b6,jh b2,jh b3,jh b7]] 190∈fs)(WE:OJ.Oy b5 (kE.cells a).toArray 54∈fs)(hm6:OJ.Oy b6 (LX.row x) 119∈fs)(hm7:OJ.Oy b7 #[jh kw] 87∈fs)(hu:Uk B w0)(hb:(fx.length+1)*200<=140737488355328)(hb2:(bG.length+1)*112<=140737488355328):
 Calls prog 88 #[pV b1 0,pV b2 0,pV b3 0,pV b4 0,pV b5 0] w (λe w'=>e=.returned (.tuple #[])/\(Qc y.b-> ∃sA' sc' J M O I,J=bG++[(⟨n,q,y.b.ep,x.l.op,a,x.l.num⟩:l9)]/\I=fx++[⟨mg n x.l.num a nowhere,none,0⟩]/\St B w0 w' (nF kn n up dA data dc OY bb Hh Us iA ix ic pv turn (bs.set q ⟨{y.b with Jp:=h.b.Jp},h.A,h.c⟩) (wF kw nv d M I O (kM sh n q (y.b.ep,(h.b.Jp.length:Int))) sA' J sc' tA tl tc calls fs)))/\(¬Qc y.b-> ∃M O I,I=fx++[⟨mg n x.l.num a (Hh q),none,0⟩]/\St B w0 w' (nF kn n up dA data dc OY bb Hh Us iA ix ic pv turn (bs.set q ⟨{y.b with Jp:=h.b.Jp},h.A,h.c⟩) (wF kw nv d M I O sh sA bG sc tA tl tc calls fs)))):=by
 have hlen:=(S.own 1 E).1;rw[jI (sz:=6) (λ_=>E)]at hlen;refine jc 17 func88 ?_;refine cw [0,1,2,3,4] ?_;refine zQ ?_;have S1:=S.drew;refine Dq (C:=λw'=>St B w0 w' (nF kn n up dA data dc OY bb Hh Us iA ix ic pv turn bs (wF kw nv d fA fx fc sh sA bG sc tA tl tc calls fs))) (m:=10) (listed:= #[false,false,false,false,false,false,false,false,false,false]) 7 mixed E E ?_;refine gk (v:=pV kn 0) 0 E S1 (λ_ Sx2=>(aA E E (aV ((St.Qi Sx2 (PO 7 E fG _ hm2)).cell E)))) ?_;iterate 3 refine ji ?_
 refine gk (v:=D (q:Int)) 4 E S1 (λ_ Sx6=>(aA E E (aV ((St.Qi Sx6 (PO 7 E fG _ JJ)).cell E)))) ?_;refine ji ?_;refine gk (v:=.slice h.A h.b.Jp.length h.c) 6 E S1 (λ_ Sx8=>(aA E E (aV ((St.Qi Sx8 (PO 7 E fG _ hm1)).cell E)))) ?_;refine gF kQ E E E ?_;refine vv (nC q) ?_;refine zQ ?_;refine nY (xs':=(bs.set q ⟨{y.b with Jp:=h.b.Jp},h.A,h.c⟩).flatMap BX.cells) 1 S1 (wn E) E E E E E E apg E (dx E) (by omega) (auR hy) ?_;intro w9 Z;have aFH:(bs.set q ⟨{y.b with Jp:=h.b.Jp},h.A,h.c⟩)[q]? =some ⟨{y.b with Jp:=h.b.Jp},h.A,h.c⟩:=qV Y;refine zQ ?_;refine kC ?_;refine zN 2 ?_;refine vv (aA E E (aV ((St.Qi Z (PO 7 E fG _ PE)).cell E))) ?_;refine vv (aA E E (vM (St.Qi Z (PO 7 E fG _ WE)) underlying54 E kQ E)) ?_;refine yR eQ (FQ hn hq aFH x a Z hm6 hm2 JJ hm7 hu hb hb2) ?_;rintro _ w12 ⟨rfl,aFI⟩;refine⟨_,E,?_⟩;refine zQ ?_;refine dG (l':=[]) trivial (q9 ?_);exact⟨E,aFI⟩
def U1{B kn kw bb n turn calls dc ic fc sc tc:Nat}{up:Bool}{dA iA fA sA tA:Option Addr}{data:List UInt8}{OY:Int}{Hh:Nat->Pl}{Us:Nat->Bool}{pv nv:Value}{d:TW}{sh:Nat->Nat->Int×Int}{bs:List BX}{ix fx:List LX}{bG:List l9}{tl:List tZ}{w0 w:World}{fs:List OJ}{q b1 b2 b3 b4:Nat}{h:BX}(hn:n<5)(hq:q<4){y:BX}(hy:bs[q]? =some y)(S:St B w0 w (nF kn n up dA data dc OY bb Hh Us iA ix ic pv turn bs (wF kw nv d fA fx fc sh sA bG sc tA tl tc calls fs)))(hm1:OJ.Oy b1 (BX.cells h).toArray 42∈fs)(I:OJ.Oy b2 #[jh kn] 98∈fs)(J:OJ.Oy b3 #[D (q:Int)] 3∈fs)(PE:OJ.Oy b4 #[jh kw] 87∈fs)(hb:(fx.length+1)*200<=140737488355328):
 Calls prog 91 #[pV b1 0,pV b2 0,pV b3 0,pV b4 0] w (λe w'=>e=.returned (.tuple #[])/\ ∃(Mj:Option Addr) (Mk:Nat) (M:List LX),M=fx++[⟨ou n q h.b,none,0⟩]/\St B w0 w' (nF kn n up dA data dc OY bb Hh Us iA ix ic pv turn (bs.set q h) (wF kw nv d Mj M Mk sh sA bG sc tA tl tc calls fs))):=by
 have O:=(S.own 1 E).1;rw[jI (sz:=6) (λ_=>E)]at O;refine jc 15 func91 ?_;refine cw [0,1,2,3] ?_;refine zQ ?_;have S1:=S.drew;refine Dq (C:=λw'=>St B w0 w' (nF kn n up dA data dc OY bb Hh Us iA ix ic pv turn bs (wF kw nv d fA fx fc sh sA bG sc tA tl tc calls fs))) (m:=8) (listed:= #[false,false,false,false,false,false,false,false]) 6 mixed E E ?_;refine gk (v:=pV kn 0) 0 E S1 (λ_ Sx2=>(aA E E (aV ((St.Qi Sx2 (PO 7 E fG _ I)).cell E)))) ?_;iterate 3 refine ji ?_
 refine gk (v:=D (q:Int)) 4 E S1 (λ_ Sx6=>(aA E E (aV ((St.Qi Sx6 (PO 7 E fG _ J)).cell E)))) ?_;refine gk (v:=.agg ((BX.cells h).toArray)) 5 E S1 (λ_ Sx7=>(aA E E (vM (St.Qi Sx7 (PO 7 E fG _ hm1)) underlying42 E kQ E))) ?_;refine gF kQ E E E ?_;refine vv (nC q) ?_;refine nY (xs':=(bs.set q h).flatMap BX.cells) 1 S1 (wn E) E E E E E E zm E (dx E) (by omega) (by rw[fU];exact tV (enc:=BX.cells) (sz:=6) (λ_=>E) h _ _ (by omega)) ?_;intro w8 S9;have Z:(bs.set q h)[q]? =some h:=qV Y;refine zQ ?_;refine kC ?_;refine zN 2 ?_;refine vv (aA E E (aV ((St.Qi S9 (PO 7 E fG _ PE)).cell E))) ?_;refine vv (aA E E (aV ((St.Qi S9 (PO 7 E fG _ I)).cell E))) ?_;refine vv (aA E E (aV ((St.Qi S9 (PO 7 E fG _ J)).cell E))) ?_;refine dZ eQ (BG hn hq Z S9 Y) ?_;rintro _ NP ⟨rfl,A11,c12,arE,aFJ,tO⟩;refine⟨_,E,?_⟩;refine zQ ?_;refine dG (l':=[]) trivial (q9 ?_);exact⟨E,A11,c12,arE,aFJ,tO⟩
def abj{B kn kw bb n turn calls dc ic fc sc tc:Nat}{up:Bool}{dA iA fA sA tA:Option Addr}{data:List UInt8}{OY:Int}{Hh:Nat->Pl}{Us:Nat->Bool}{pv nv:Value}{d:TW}{sh:Nat->Nat->Int×Int}{bs:List BX}{ix fx:List LX}{bG:List l9}{tl:List tZ}{w0 w:World}{fs:List OJ}{q b1 b2 b3 b4 b5:Nat}{I:BX}{x:LX}(hn:n<5)(hq:q<4){y:BX}(hy:bs[q]? =some y)(S:St B w0 w (nF kn n up dA data dc OY bb Hh Us iA ix ic pv turn bs (wF kw nv d fA fx fc sh sA bG sc tA tl tc calls fs)))(hm1:OJ.Oy b1 (BX.cells I).toArray 42∈fs)(M:OJ.Oy b2 #[jh kn] 98∈fs)(O:OJ.Oy b3 #[D (q:Int)] 3∈fs)(PE:OJ.Oy b4 (LX.row x) 119∈fs)(WE:OJ.Oy b5 #[jh kw] 87∈fs)(hb:(fx.length+1)*200<=140737488355328)(hb2:(bG.length+1)*112<=140737488355328):
 Calls prog 96 #[pV b1 0,pV b2 0,pV b3 0,pV b4 0,pV b5 0] w (λe w'=>e=.returned (.tuple #[])/\(x.l.last=true-> ∃(sA':Option Addr) (sc':Nat) (aff:List l9),aff=bG++[(⟨n,q,I.b.ep,bg,iX,-1⟩:l9)]/\St B w0 w' (nF kn n up dA data dc OY bb Hh (PN Us q false) iA ix ic pv turn (bs.set q I) (wF kw nv d fA fx fc (kM sh n q (I.b.ep,(I.b.Jp.length:Int))) sA' aff sc' tA tl tc calls fs)))/\(x.l.last=false-> ∃(Mj:Option Addr) (Mk:Nat) (Rn:List LX),Rn=fx++[⟨ou n q I.b,none,0⟩]/\St B w0 w' (nF kn n up dA data dc OY bb Hh Us iA ix ic pv turn (bs.set q I) (wF kw nv d Mj Rn Mk sh sA bG sc tA tl tc calls fs)))):=by
 have hlen:=(S.own 1 E).1;rw[jI (sz:=6) (λ_=>E)]at hlen;refine jc 29 func96 ?_;refine cw [0,1,2,3,4] ?_;refine zQ ?_;have S1:=S.drew;refine Dq (C:=λw'=>St B w0 w' (nF kn n up dA data dc OY bb Hh Us iA ix ic pv turn bs (wF kw nv d fA fx fc sh sA bG sc tA tl tc calls fs))) (m:=8) (listed:= #[false,false,false,false,false,false,false,false]) 6 mixed E E ?_;refine gk (v:=pV kn 0) 0 E S1 (λ_ Sx2=>(aA E E (aV ((St.Qi Sx2 (PO 7 E fG _ M)).cell E)))) ?_;iterate 3 refine ji ?_
 refine gk (v:=D (q:Int)) 4 E S1 (λ_ Sx6=>(aA E E (aV ((St.Qi Sx6 (PO 7 E fG _ O)).cell E)))) ?_;refine gk (v:=.agg ((BX.cells I).toArray)) 5 E S1 (λ_ Sx7=>(aA E E (vM (St.Qi Sx7 (PO 7 E fG _ hm1)) underlying42 E kQ E))) ?_;refine gF kQ E E E ?_;refine vv (nC q) ?_;refine nY (xs':=(bs.set q I).flatMap BX.cells) 1 S1 (wn E) E E E E E E zm E (dx E) (by omega) (by rw[fU];exact tV (enc:=BX.cells) (sz:=6) (λ_=>E) I _ _ (by omega)) ?_;intro w8 S9;have afz:(bs.set q I)[q]? =some I:=qV Y;refine zQ ?_;refine kC ?_;refine zN 5 ?_;refine vv (v:=.bool x.l.last) (aA E E (aV ((St.Qi S9 (PO 7 E fG _ PE)).cell E))) ?_;refine zN 2 ?_
 cases aOS:(x.l.last)
 ·refine cB (l':=[(1,pV b2 0),(2,pV b3 0),(4,pV b5 0),(13,.bool false)]) lU (oF E (uh (jD (aL (vv (aA E E (aV ((St.Qi S9 (PO 7 E fG _ WE)).cell E))) ?_)))));refine vv (aA E E (aV ((St.Qi S9 (PO 7 E fG _ M)).cell E))) ?_;refine vv (aA E E (aV ((St.Qi S9 (PO 7 E fG _ O)).cell E))) ?_;refine dZ eQ (BG hn hq afz S9 Y) ?_;rintro _ w16 ⟨rfl,A12,c13,aFK,arF,Bc⟩;refine⟨_,E,?_⟩;refine zQ ?_;refine dG (l':=[]) trivial (q9 ?_);exact⟨E,λh=>by simp_all,λ_=>⟨A12,c13,aFK,arF,Bc⟩⟩
 refine cB (l':=[(1,pV b2 0),(2,pV b3 0),(4,pV b5 0),(13,.bool true)]) lU (oD E (bH ?_));have J:=S9.drew;refine aU 6 J [0] ?_;refine ak (v:=pV kn 0) 0 E (St.del 0 J) (λ_ aFL=>(aA E E (aV ((St.Qi aFL (PO 6 E fG _ M)).cell E)))) ?_;refine ak (v:=D (q:Int)) 1 E (St.del 0 J) (λ_ afA=>(aA E E (aV ((St.Qi afA (PO 6 E fG _ O)).cell E)))) ?_;refine aW 2 ?_;refine ak (v:=pV kn (13+q*1)) 4 E (St.del 0 J) (λ_ _=>(bF E E E (fP q underlying102 kQ E hq))) ?_;refine bJ 5 ?_;refine wV (i:=5) E E (cs:= #[.bool false]) (row':=eP n up (.slice dA data.length dc) OY (.slice (aD bb 0) 4 4) Hh (PN Us q false) (.slice iA ix.length ic) (pv) turn) (fs':=((bN kn n up dA data dc OY bb Hh (PN Us q false) iA ix ic pv turn)::_::_::_::_::_::_::fs)) 0 J (wn E) E E E E E E aqE E (dx E) (by rw[show Array.size (eP _ _ _ _ _ _ _ _ _ _)=20 from E];omega) (acC hq (v:=false)) E ?_;intro QL Z;refine aW 2 ?_;refine zN 3 ?_;refine vv (aA E E (aV ((St.Qi Z (PO 7 E fG _ WE)).cell E))) ?_;refine vv (aA E E (aV ((St.Qi Z (PO 7 E fG _ M)).cell E))) ?_;refine vv (aA E E (aV ((St.Qi Z (PO 7 E fG _ O)).cell E))) ?_;refine vv (v:=.agg #[D 4,D 0,D 0,D 0,D 0,D 0]) iJ ?_;refine zQ ?_;refine dZ eQ (qB hn hq afz bg iX (-1) Z Y) ?_;rintro _ YM ⟨rfl,A26,c27,aFM,aFN,tu⟩;refine⟨_,E,?_⟩;refine zQ ?_;refine dG (l':=[]) trivial (jD (rM (jv (fK (rs:=[]) (vs:=[]) E trivial ?_))));exact⟨E,λ_=>⟨A26,c27,aFM,aFN,tu⟩,λh=>by simp_all⟩
def Yo{B kn kw bb n turn calls dc ic fc sc tc:Nat}{up:Bool}{dA iA fA sA tA:Option Addr}{data:List UInt8}{OY:Int}{Hh:Nat->Pl}{Us:Nat->Bool}{pv nv:Value}{d:TW}{sh:Nat->Nat->Int×Int}{bs:List BX}{ix fx:List LX}{bG:List l9}{tl:List tZ}{w0 w:World}{fs:List OJ}{L:List OJ}{q b1 b2 b3 b4 b5:Nat}{h:BX}{x:LX}(hn:n<5)(hq:q<4){y:BX}(hy:bs[q]? =some y)(S:St B w0 w (nF kn n up dA data dc OY bb Hh Us iA ix ic pv turn bs (wF kw nv d fA fx fc sh sA bG sc tA tl tc calls fs)))(hm1:OJ.Oy b1 (BX.cells h).toArray 42∈fs)(J:OJ.Oy b2 #[jh kn] 98∈fs)(M:OJ.Oy b3 #[D (q:Int)] 3∈fs)(PE:OJ.Oy b4 #[jh kw] 87∈fs)(WE:OJ.Oy b5 (LX.row x) 119∈fs)(hev:Eo L h)(hL:∀f∈L,f∈fs)(O:h.b.Jp.length*48<=reachBytes)(iD: -2<=h.b.ep/\h.b.ep<=2000000)(hb:(fx.length+1)*200<=140737488355328):
 Calls prog 94 #[pV b1 0,pV b2 0,pV b3 0,pV b4 0,pV b5 0] w (λe w'=>e=.returned (.tuple #[])/\ ∃(A':Option Addr) (c':Nat) (I:List LX) (N:List OJ),I.map LX.l=lI n q h.b x.l.at_ (fx.map LX.l)/\(∀x∈I,x∈fx\/UN N x)/\St B w0 w' (nF kn n up dA data dc OY bb Hh Us iA ix ic pv turn (bs.set q h) (wF kw nv d A' I c' sh sA bG sc tA tl tc calls (fs++N)))):=by
 have Z:=(S.own 1 E).1;rw[jI (sz:=6) (λ_=>E)]at Z;refine jc 18 func94 ?_;refine cw [0,1,2,3,4] ?_;refine zQ ?_;have S1:=S.drew;refine Dq (C:=λw'=>St B w0 w' (nF kn n up dA data dc OY bb Hh Us iA ix ic pv turn bs (wF kw nv d fA fx fc sh sA bG sc tA tl tc calls fs))) (m:=8) (listed:= #[false,false,false,false,false,false,false,false]) 6 mixed E E ?_;refine gk (v:=pV kn 0) 0 E S1 (λ_ Sx2=>(aA E E (aV ((St.Qi Sx2 (PO 7 E fG _ J)).cell E)))) ?_;iterate 3 refine ji ?_
 refine gk (v:=D (q:Int)) 4 E S1 (λ_ Sx6=>(aA E E (aV ((St.Qi Sx6 (PO 7 E fG _ M)).cell E)))) ?_;refine gk (v:=.agg ((BX.cells h).toArray)) 5 E S1 (λ_ Sx7=>(aA E E (vM (St.Qi Sx7 (PO 7 E fG _ hm1)) underlying42 E kQ E))) ?_;refine gF kQ E E E ?_;refine vv (nC q) ?_;refine nY (xs':=(bs.set q h).flatMap BX.cells) 1 S1 (wn E) E E E E E E zm E (dx E) (by omega) (by rw[fU];exact tV (enc:=BX.cells) (sz:=6) (λ_=>E) h _ _ (by omega)) ?_;intro w8 S9;have afz:(bs.set q h)[q]? =some h:=qV Y;refine zQ ?_;refine kC ?_;refine zN 2 ?_;refine vv (aA E E (aV ((St.Qi S9 (PO 7 E fG _ PE)).cell E))) ?_;refine vv (aA E E (aV ((St.Qi S9 (PO 7 E fG _ J)).cell E))) ?_;refine vv (aA E E (aV ((St.Qi S9 (PO 7 E fG _ M)).cell E))) ?_;refine zQ ?_;refine vv (aA E E (aV ((St.Qi S9 (PO 7 E fG _ WE)).cell E))) ?_;refine dZ eQ (Oa (L:=L) hn hq afz x.l.at_ hev (PO 0 E hL) O iD S9 Y) ?_;rintro _ Pp ⟨rfl,A11,c12,arE,N14,arF,hx16,tq⟩;refine⟨_,E,?_⟩;refine zQ ?_;refine dG (l':=[]) trivial (q9 ?_);exact⟨E,A11,c12,arE,N14,arF,hx16,tq⟩
def ad3{B kn kw bb n turn calls M ic fc sc tc:Nat}{up:Bool}{O iA fA sA tA:Option Addr}{data:List UInt8}{OY:Int}{Hh:Nat->Pl}{Us:Nat->Bool}{pv nv:Value}{d:TW}{sh:Nat->Nat->Int×Int}{bs:List BX}{ix fx:List LX}{bG:List l9}{tl:List tZ}{w0 w:World}{fs:List OJ}{q b1 b2 b3:Nat}{h:BX}(hn:n<5)(hq:q<4){y:BX}(hy:bs[q]? =some y)(S:St B w0 w (nF kn n up O data M OY bb Hh Us iA ix ic pv turn bs (wF kw nv d fA fx fc sh sA bG sc tA tl tc calls fs)))(Z:OJ.Oy b1 (BX.cells h).toArray 42∈fs)(hm2:OJ.Oy b2 #[jh kn] 98∈fs)(JJ:OJ.Oy b3 #[D (q:Int)] 3∈fs):
 Calls prog 98 #[pV b1 0,pV b2 0,pV b3 0] w (λe w'=>e=.returned (.tuple #[])/\St B w0 w' (nF kn n up O data M OY bb Hh Us iA ix ic pv turn (bs.set q h) (wF kw nv d fA fx fc sh sA bG sc tA tl tc calls fs))):=by
 have I:=(S.own 1 E).1;rw[jI (sz:=6) (λ_=>E)]at I;refine jc 10 func98 ?_;refine cB (l':=[(0,pV b1 0),(1,pV b2 0),(2,pV b3 0)]) Ip ?_;have J:=S.drew;refine Dq (C:=λw'=>St B w0 w' (nF kn n up O data M OY bb Hh Us iA ix ic pv turn bs (wF kw nv d fA fx fc sh sA bG sc tA tl tc calls fs))) (m:=8) (listed:= #[false,false,false,false,false,false,false,false]) 6 mixed E E ?_;refine gk (v:=pV kn 0) 0 E J (λ_ Sx2=>(aA E E (aV ((St.Qi Sx2 (PO 7 E fG _ hm2)).cell E)))) ?_;iterate 3 refine ji ?_
 refine gk (v:=D (q:Int)) 4 E J (λ_ Sx6=>(aA E E (aV ((St.Qi Sx6 (PO 7 E fG _ JJ)).cell E)))) ?_;refine gk (v:=.agg ((BX.cells h).toArray)) 5 E J (λ_ Sx7=>(aA E E (vM (St.Qi Sx7 (PO 7 E fG _ Z)) underlying42 E kQ E))) ?_;refine gF kQ E E E ?_;refine vv (nC q) ?_;refine nY (xs':=(bs.set q h).flatMap BX.cells) 1 J (wn E) E E E E E E zm E (dx E) (by omega) (by rw[fU];exact tV (enc:=BX.cells) (sz:=6) (λ_=>E) h _ _ (by omega)) ?_;intro w8 S9;have afz:(bs.set q h)[q]? =some h:=qV Y;refine zQ ?_;refine kC ?_;refine dG (l':=[]) trivial (q9 ?_);exact⟨E,S9⟩
def Y1{P:Program}{t:TypeId}{xo yo:Operand}{w:World}{a b c:Nat}(h:c=a % b)(I:b≠0):(do eqGuard .rem t xo yo (D (a:Int)) (D (b:Int));binOp .rem t (D (a:Int)) (D (b:Int)):Sem Value).run P w=.ok (D (c:Int)) w:=by
 subst h;have h1:((a:Int)).tmod (b:Int)=((a % b:Nat):Int):=by rw[aco (Int.natCast_nonneg a)];rfl
 have J:¬((b:Int)=0):=Y;simp[binOp,Op.intDiv,J,h1,eqGuard_rem];exact λh=>av h I
def DN{m:Cl}{n q:Nat}{X:Nd}{b:bC}(h:m.aj n=X)(I:q=X.turn % 4)(J:X.bs q=b):m.lu n={ (m.put n {X with turn:=X.turn+1})with OM:=m.OM++ig n q b (X.PZ q)}:=by
 subst h;subst I;subst J;rfl
def fF.turn{K:CK}{L:List OJ}{n t:Nat}{X:Nd}{z:NX}(h:fF K L n X z):fF K L n {X with turn:=t} z:=⟨h.UO,h.Wu,h.Al,h.ixm,h.ixo,h.nQ⟩
def aAf{fx:List LX}{x y:LX}{P:LX->Prop}(I:P x)(J:P y):∀u∈fx++[x,y],u∈fx\/P u:=λu M=>(aP.1 M).elim .inl λh=>by
 rcases iq.1 h with h|h
 ·subst h;exact .inr I
 rw[aF]at h;subst h;exact .inr J
def abk{K:CK}{B n kn kw:Nat}{w0 w:World}{fs:List OJ}{m:Cl}{H:List LX}(hn:n<5)(M:K.nb n=kn)(O:K.wb=kw)(hu:Uk B w0)(hB1:m.OM.length<=1000000000)(hB2:m.bG.length<=1000000000000)(HW:Wd K B w0 w fs m H)(htn:(m.aj n).turn<=1000000000000)(hv:∀q,q<4->ay ((m.aj n).bs q)=0):
 Calls prog 48 #[pV kw 0,pV kn 0] w (λe w'=>e=.returned (.tuple #[])/\Wd K B w0 w' fs (m.lu n) H):=by
 obtain⟨R,G,S0⟩:=HW.open hn;have hfl:R.fx.length=m.OM.length:=by rw[<-G.OM,iE]
 have NG:=G.jH n hn;obtain⟨X,hX⟩:∃X,m.aj n=X:=⟨_,E⟩;obtain⟨z,hz⟩:∃z,R.nx n=z:=⟨_,E⟩;rw[hX,hz]at S0 NG;have hL:∀f∈R.L,f∈iW K R m fs n:=λf h=>aK _ (aK _ h);obtain⟨rr,Z⟩:∃r,iW K R m fs n=r:=⟨_,E⟩;rw[Z]at S0 hL;have S:St B w0 w (cN kn n X z z.pv (cF kw R m rr)):=by subst M;subst O;exact S0
 clear S0 HW;have hlen:=(S.own 1 E).1;rw[jI (sz:=6) (λ_=>E)]at hlen;rw[hX]at hv htn;obtain⟨q,hqt⟩:∃q,q=X.turn % 4:=⟨_,E⟩;have hq:q<4:=Y;obtain⟨y,hy,hyb,tF⟩:=NG.at_ hq;have OQ:=zw (hyb▸hv _ hq);refine jc 89 func48 ?_;refine cw [0,1] ?_;refine zN 6 ?_;refine vv (v:=D ((q:Nat):Int)) (cK E E E (Y1 hqt dQ)) ?_;refine zN 9 ?_;refine vv (v:=D ((X.turn+1:Nat):Int)) jW ?_;refine zN 2 ?_;refine kZ (row':=eP n X.up (.slice z.tA X.data.length z.tc) X.OY (.slice (aD z.bb 0) 4 4) X.PS X.PZ (.slice z.iA z.ix.length z.ic) (z.pv) (X.turn+1)) 0 S kQ ?_;intro w1 S2;refine zN 9 ?_;refine vv (nC q) ?_;refine vv (aA E E (fu (cs:=BX.cells y) (Rd.Bb (St.Uz 1 S2 E) (λ_ _ h=>dF (enc:=BX.cells) (sz:=6) (λ_=>E) hy h)))) ?_;refine iU S2 iN ?_;intro b3 w4 S5;refine sa 0 S5 kQ ?_;intro w6 S7;refine zN 7 ?_;by_cases h8:y.b.F9=2
 ·refine zN 9 ?_;have S9:=S7.fC [5,5];have Fx:=S9.drew;refine aU 13 Fx [1,0] ?_;refine aW 10 ?_;refine ak (v:=D (y.b.ep+1)) 10 E (Fx.lV [1,0]) (λ_ _=>jW) ?_;refine ak (v:=.agg #[D 2,D (n:Int),D y.b.tg,D ((q:Nat):Int),D (y.b.ep+1),D 0,D 0,D 0,D 0,D 0,D 0,D 0,D 0,.slice none 0 0,.bool false,D 0,D 0,D 0,D 0,D 0,D 0,D 0,D 0]) 11 E (Fx.lV [1,0]) (λ_ _=>iJ) ?_;refine bJ 12 ?_;refine ku 12 E eQ (jl (x:=⟨yC n q y.b,none,0⟩) Fx Y) ?_;rintro _ QF ⟨rfl,A23,c24,aFO,aFP,vR⟩;refine⟨_,E,?_⟩;refine aW 2 ?_;refine zN 36 ?_;have vT:=vR.bq [2];have Ed:=vT.fC [6,6,3,3,6,6,6];have I:ig n q y.b (X.PZ q)=[yC n q y.b]:=by
   unfold ig
   (rw[au (by first|omega|exact⟨by omega,by omega,by assumption⟩),ah (by first|omega|(rintro⟨h1,h2,h3⟩;first|omega|simp_all)),ah (by first|omega|(rintro⟨h1,h2,h3⟩;first|omega|simp_all))])<;>rfl
  rw[DN hX hqt hyb.symm];have J:=aFP;exact⟨E,Wd.fq (X':={X with turn:=X.turn+1}) (z':=z) (Ls:=[]) (fA:=A23) (fc:=c24) (fx:=aFO) (sA:=R.sA) (sc:=R.sc) (tA:=R.tA) (tc:=R.tc) M O Z G hn Ed (fF.turn NG.more) (by rw[J];exact rC (kr E)) E (by rw[J,I,iP,G.OM];rfl) (λu h=>.inl h)⟩
 refine zN 4 ?_;by_cases h31:y.b.F9=3
 ·refine zN 5 ?_;have wP:=S7.fC [5,5];have yB:=wP.drew;refine aU 13 yB [1,0] ?_;refine aW 10 ?_;refine ak (v:=D (y.b.ep+1)) 10 E (yB.lV [1,0]) (λ_ _=>jW) ?_;refine ak (v:=.agg #[D 2,D (n:Int),D y.b.tg,D ((q:Nat):Int),D (y.b.ep+1),D 0,D 0,D 0,D 0,D 0,D 0,D 0,D 0,.slice none 0 0,.bool false,D 0,D 0,D 0,D 0,D 0,D 0,D 0,D 0]) 11 E (yB.lV [1,0]) (λ_ _=>iJ) ?_;refine bJ 12 ?_;refine ku 12 E eQ (jl (x:=⟨yC n q y.b,none,0⟩) yB Y) ?_;rintro _ YO ⟨rfl,A46,c47,aOT,axO,yK⟩;refine⟨_,E,?_⟩;refine aW 2 ?_;refine zN 17 ?_;refine vv (v:=.agg #[D 5,D (n:Int),D (-2),D ((q:Nat):Int),D 0,D 0,D (-1),D 0,D 0,D 0,D 0,D 0,D 0,.slice none 0 0,.bool false,D 0,D 0,D 0,D 0,D 0,D 0,D 0,D 0]) iJ ?_;refine dZ eQ (jl (x:=⟨Rf n q,none,0⟩) yK (by simp only[axO,length_append,length_cons,length_nil];omega)) ?_;rintro _ w56 ⟨rfl,A52,c53,axP,aFQ,wY⟩;refine⟨_,E,?_⟩;refine zN 26 ?_;have FC:=wY.bq [2];have zT:=FC.fC [6,6,3,3,6,6,6];have I:ig n q y.b (X.PZ q)=[yC n q y.b,Rf n q]:=by
   unfold ig
   (rw[au (by first|omega|exact⟨by omega,by omega,by assumption⟩),au (by first|omega|exact⟨by omega,by omega,by assumption⟩),ah (by first|omega|(rintro⟨h1,h2,h3⟩;first|omega|simp_all))])<;>rfl
  rw[DN hX hqt hyb.symm];have J:axP=R.fx++[⟨yC n q y.b,none,0⟩,⟨Rf n q,none,0⟩]:=by rw[aFQ,axO];simp
  exact⟨E,Wd.fq (X':={X with turn:=X.turn+1}) (z':=z) (Ls:=[]) (fA:=A52) (fc:=c53) (fx:=axP) (sA:=R.sA) (sc:=R.sc) (tA:=R.tA) (tc:=R.tc) M O Z G hn zT (fF.turn NG.more) (by rw[J];exact aAf (kr E) (kr E)) E (by rw[J,I,iP,G.OM];rfl) (λu h=>.inl h)⟩
 refine zN 22 ?_;by_cases h60:y.b.F9=1
 ·refine zN 4 ?_;by_cases h61:1<y.b.ep
  ·refine zN 7 ?_;refine vg (v:=pV kn (13+q*1)) (bF E E E (fP q underlying102 kQ E hq)) ?_;refine vg (aA E E (aV (St.cl 1 S7 E (an5 hq)))) ?_
   cases axQ:(X.PZ q)
   ·refine zN 5 ?_;have ze:=S7.fC [5,5];have S64:=ze.drew;refine aU 15 S64 [1,0] ?_;refine aW 8 ?_;refine ak (v:=D (y.b.ep-1)) 8 E (S64.lV [1,0]) (λ_ _=>ysu) ?_;refine aW 4 ?_;refine ak (v:=.agg #[D 5,D (n:Int),D (-2),D ((q:Nat):Int),D (y.b.ep-1),D 0,D (n:Int),D 0,D 0,D 0,D 0,D 0,D 0,.slice none 0 0,.bool false,D 0,D 0,D 0,D 0,D 0,D 0,D 0,D 0]) 13 E (S64.lV [1,0]) (λ_ _=>iJ) ?_;refine bJ 14 ?_;refine ku 14 E eQ (jl (x:=⟨Pb n q y.b,none,0⟩) S64 Y) ?_;rintro _ w83 ⟨rfl,A79,c80,aFR,aFS,IG⟩;refine⟨_,E,?_⟩;refine aW 2 ?_;refine dG (l':=[]) trivial (q9 ?_);have Mg:=IG.bq [2];have Ei:=Mg.fC [6,6,3,3,6,6,6];have I:ig n q y.b (X.PZ q)=[Pb n q y.b]:=by
     unfold ig
     (rw[ah (by first|omega|(rintro⟨h1,h2,h3⟩;first|omega|simp_all)),ah (by first|omega|(rintro⟨h1,h2,h3⟩;first|omega|simp_all)),au (by first|omega|exact⟨by omega,by omega,by assumption⟩)])<;>rfl
    rw[DN hX hqt hyb.symm];have J:=aFS;exact⟨E,Wd.fq (X':={X with turn:=X.turn+1}) (z':=z) (Ls:=[]) (fA:=A79) (fc:=c80) (fx:=aFR) (sA:=R.sA) (sc:=R.sc) (tA:=R.tA) (tc:=R.tc) M O Z G hn Ei (fF.turn NG.more) (by rw[J];exact rC (kr E)) E (by rw[J,I,iP,G.OM];rfl) (λu h=>.inl h)⟩
   refine zN 7 ?_;have JC:=S7.bq [0];have I:ig n q y.b (X.PZ q)=[]:=by
    unfold ig
    (rw[ah (by first|omega|(rintro⟨h1,h2,h3⟩;first|omega|simp_all)),ah (by first|omega|(rintro⟨h1,h2,h3⟩;first|omega|simp_all)),ah (by first|omega|(rintro⟨h1,h2,h3⟩;first|omega|simp_all))])<;>rfl
   rw[DN hX hqt hyb.symm];exact⟨E,Wd.fq (X':={X with turn:=X.turn+1}) (z':=z) (Ls:=[]) (fA:=R.fA) (fc:=R.fc) (fx:=R.fx) (sA:=R.sA) (sc:=R.sc) (tA:=R.tA) (tc:=R.tc) M O Z G hn JC (fF.turn NG.more) (λu hu=>.inl hu) E (by rw[I,G.OM,bI]) (λu h=>.inl h)⟩
  refine zN 16 ?_;have Px:=S7.bq [0];have I:ig n q y.b (X.PZ q)=[]:=by
   unfold ig
   (rw[ah (by first|omega|(rintro⟨h1,h2,h3⟩;first|omega|simp_all)),ah (by first|omega|(rintro⟨h1,h2,h3⟩;first|omega|simp_all)),ah (by first|omega|(rintro⟨h1,h2,h3⟩;first|omega|simp_all))])<;>rfl
  rw[DN hX hqt hyb.symm];exact⟨E,Wd.fq (X':={X with turn:=X.turn+1}) (z':=z) (Ls:=[]) (fA:=R.fA) (fc:=R.fc) (fx:=R.fx) (sA:=R.sA) (sc:=R.sc) (tA:=R.tA) (tc:=R.tc) M O Z G hn Px (fF.turn NG.more) (λu hu=>.inl hu) E (by rw[I,G.OM,bI]) (λu h=>.inl h)⟩
 refine zN 20 ?_;have Pw:=S7.bq [0];have I:ig n q y.b (X.PZ q)=[]:=by
  unfold ig
  (rw[ah (by first|omega|(rintro⟨h1,h2,h3⟩;first|omega|simp_all)),ah (by first|omega|(rintro⟨h1,h2,h3⟩;first|omega|simp_all)),ah (by first|omega|(rintro⟨h1,h2,h3⟩;first|omega|simp_all))])<;>rfl
 rw[DN hX hqt hyb.symm];exact⟨E,Wd.fq (X':={X with turn:=X.turn+1}) (z':=z) (Ls:=[]) (fA:=R.fA) (fc:=R.fc) (fx:=R.fx) (sA:=R.sA) (sc:=R.sc) (tA:=R.tA) (tc:=R.tc) M O Z G hn Pw (fF.turn NG.more) (λu hu=>.inl hu) E (by rw[I,G.OM,bI]) (λu h=>.inl h)⟩
def ajE(ro ep fr tg rd:Int)(A:Option Addr)(c:Nat)(l:List Ev)(kd qu e pe:Int)(x:Ev)(hk:¬(1<=kd/\kd<=7))(w:World)(h:Rd w w.heap.size 6 A l.length (bU l))(hb:l.length*48<=reachBytes):
 Calls prog 60 #[.agg #[D ro,D ep,D fr,D tg,D rd,.slice A l.length c],.agg #[D kd,D qu,D e,D pe,D x.kind,D x.OU,D x.id,D x.body,D x.OZ,D x.PX]] w (oJ w (fO ⟨ro,ep,fr,tg,rd,l⟩ ⟨kd,qu,e,pe,x⟩)):=by
 have S:=(St.start w).dJ h;have M:=hb;unfold reachBytes at M;refine jc 54 func60 ?_;refine cw [0,1] ?_;refine zN 2 ?_;refine jT S ?_;intro b1 w2 S3;refine jT S3 ?_;intro b4 w5 S6;refine iU S6 iN ?_;intro b7 w8 S9;refine zN 7 ?_;refine UR eQ S9 (fJ ro ep fr tg rd A c l _ (St.rd 3 S9 E) Y) ?_;intro w10 J;refine zN 6 ?_;by_cases I:ay ⟨ro,ep,fr,tg,rd,l⟩=0
 ·have O:=jd (gG I).2;dsimp only at O;refine zN 10 ?_;refine UR eQ J (lF ⟨kd,qu,e,pe,x⟩ _) ?_;intro Py Z;refine zN 6 ?_;have hne:¬aO ⟨kd,qu,e,pe,x⟩=0:=by rw[ajp (by exact hk)];decide
  refine zN 6 ?_;refine vv kL ?_;refine zQ ?_;refine sa 0 Z kQ ?_;intro Pp tq;refine zN 6 ?_;have xg:=tq.bq [3,2,1,0];rw[Da I hne];exact⟨none,0,iR 0,E,aI xg⟩
 refine zN 6 ?_;refine vv kL ?_;refine zQ ?_;refine sa 0 J kQ ?_;intro w20 xM;refine zN 6 ?_;have l6:=xM.bq [3,2,1,0];rw[C9 I];exact⟨none,0,iR 0,E,aI l6⟩
def Hy {k z:Int} {F:FuncId} {AR:bC×Int} (ro ep fr tg rd:Int) (A:Option Addr) (c:Nat) (l:List Ev) (qu e pe:Int) (x:Ev) (hk:k≠3/\k≠4) (hkr: -9223372036854775808<=k/\k<=9223372036854775807) (hact:mO ⟨ro,ep,fr,tg,rd,l⟩ ⟨k,qu,e,pe,x⟩=if ¬ (ro=z/\ep=e) then (bX,3) else AR)
    (hra:∀w,Calls tP 80 #[] w λe w'=> ∃m d g,e=.returned (.map (some m))/\St w.heap.size w w' [.Oy d #[D z] 3,.Oy g #[.func (.func F) #[] #[]] 172,.loc m (sP tP 3 (λy=>if y=k then some (.func (.func 116) #[] #[pV d 0,pV g 0])else none) 7)])
    (ho:∀(b1 b2:Nat) (_:l.length<=2000) (_:0<=e/\e<=1048576) (w:World) (_:Rd w w.heap.size 6 A l.length (bU l)) (_:l.length*48<=reachBytes) (_:Rd w w.heap.size 1 (aD b1 0) 1 [D z]) (_:Rd w w.heap.size 1 (aD b2 0) 1 [.func (.func F) #[] #[]]),Calls tP 116 #[.agg #[D ro,D ep,D fr,D tg,D rd,.slice A l.length c],.agg (rR k qu e pe x),pV b1 0,pV b2 0] w (mY w (if ¬(ro=z/\ep=e)then(bX,3)else AR)))
    (hlc:l.length<=c) (w:World) (h:Rd w w.heap.size 6 A l.length (bU l)) (hb:l.length*48<=reachBytes):
    Calls tP 60 #[.agg #[D ro,D ep,D fr,D tg,D rd,.slice A l.length c],.agg (rR k qu e pe x)] w (oJ w (fO ⟨ro,ep,fr,tg,rd,l⟩ ⟨k,qu,e,pe,x⟩)):=by
 have S:=(St.start w).dJ h;have hb2:=hb;unfold reachBytes at hb2;obtain⟨R,hR⟩:∃R,mO ⟨ro,ep,fr,tg,rd,l⟩ ⟨k,qu,e,pe,x⟩=R:=⟨_,E⟩;have hM:=hR;rw[hact]at hM
 try dsimp only at hM
 have apZ:R.1.Jp.length<=l.length+1:=by rw[<-hR];exact Hr
 refine jc 54 func60 ?_;refine cw [0,1] ?_;refine zN 2 ?_;refine jT S ?_;intro b1 w2 S3;refine jT S3 ?_;intro b4 w5 S6;refine iU S6 iN ?_;intro b7 w8 S9;refine zN 7 ?_;refine UR eQ S9 (fJ ro ep fr tg rd A c l _ (St.rd 3 S9 E) Y) ?_;intro w10 EJ;refine zN 6 ?_;by_cases M:ay ⟨ro,ep,fr,tg,rd,l⟩=0
 ·have hln:=jd (gG M).2;dsimp only at hln;refine zN 10 ?_;refine UR eQ EJ (lF ⟨k,qu,e,pe,x⟩ _) ?_;intro Py kP;refine zN 6 ?_;by_cases Z:aO ⟨k,qu,e,pe,x⟩=0
  ·have hrz:=C8 Z;dsimp only at hrz;refine zN 11 ?_;by_cases h18:ro=2
   ·refine zN 16 ?_;refine vv kL ?_;refine sa 0 kP kQ ?_;intro J9 tN;refine zN 6 ?_;have xM:=tN.bq [3,2,1,0];rw[DI M Z uQ];exact⟨none,0,iR 0,E,aI xM⟩
   refine zN 4 ?_;refine Bg eQ (NZ k hk _) ?_;rintro _ w22 ⟨rfl,RD⟩;refine⟨_,E,?_⟩;have xq:=kP.on RD;refine zN 3 ?_;by_cases xu:pe=0
   ·refine zN 8 ?_;refine qb (X:=Nat×(Option Addr)×Nat×Nat×Nat×Nat) (λxv=>[(4,pV b7 0),(5,D 0),(8,pV xv.1 0),(9,D R.2)]) (λxv wr=>St w.heap.size w wr [.Oy xv.1 (bR R.1 xv.2.1 xv.2.2.1) 42,.dR 6 xv.2.1 R.1.Jp.length ((R.1.Jp).flatMap Ev.cells),.Oy xv.2.2.2.1 #[D z] 3,.Oy xv.2.2.2.2.1 #[.func (.func F) #[] #[]] 172,.loc xv.2.2.2.2.2 (sP tP 3 (λy=>if y=k then some (.func (.func 116) #[] #[pV xv.2.2.2.1 0,pV xv.2.2.2.2.1 0])else none) 7),.Oy b7 zB 42,.Oy b4 (rR k qu e pe x) 138,.Oy b1 #[D ro,D ep,D fr,D tg,D rd,.slice A l.length c] 42,.rd 6 A l.length ((l).flatMap Ev.cells)]) ?_ ?_
    ·have vK:=xq.drew;refine aU 13 vK [] ?_;refine aW 4 ?_;refine gL (n:=8) (r:=0) (s:=10) kQ ?_ ?_
     ·refine ku 0 E eQ (hra _) ?_;rintro _ w34 ⟨m31,I,J,rfl,T36⟩;refine⟨_,E,?_⟩;have O:=vK.ext T36 E;refine dI ?_;refine gL (n:=7) (r:=3) (s:=10) kQ ?_ ?_
      ·refine kG (i:=3) E E (v:=.func (.func 116) #[] #[pV I 0,pV J 0]) (wn E) E E (lY 2 O E E E E underlying3 underlying173 (zeroValue172 _) hkr (au E)) ?_;refine dI ?_;refine gL (n:=6) (r:=6) (s:=10) kQ ?_ ?_
       ·have HC:=ho I J Y Y _ (St.rd 6 O E) hb (St.nP (xs:=[D z]) 0 O E E E) (St.nP (xs:=[.func (.func F) #[] #[]]) 1 O E E E);rw[hM]at HC;refine pU 6 E eQ (HC) ?_;rintro _ w40 ⟨A37,c38,aKP,rfl,T42⟩;refine⟨_,E,?_⟩;have L9:=O.ext T42 E;clear HC;refine aW 4 ?_;refine bJ 10 ?_;refine nT 10 E L9 iN ?_;intro b46 w47 CU;refine dI ?_;refine bJ 11 ?_;refine sn 11 E 0 CU kQ ?_;intro w49 zS;refine aW 3 ?_;refine eO (b46,A37,c38,I,J,m31) ?_ lU;exact zS
       refine nT 10 E O iN ?_;intro b52 w53 xw;refine dI ?_;refine bJ 6 ?_;have HC:=ho I J Y Y _ (St.rd 7 xw E) hb (St.nP (xs:=[D z]) 1 xw E E E) (St.nP (xs:=[.func (.func F) #[] #[]]) 2 xw E E E);rw[hM]at HC;refine pU 6 E eQ (HC) ?_;rintro _ w58 ⟨A55,c56,aKQ,rfl,T60⟩;refine⟨_,E,?_⟩;have zT:=xw.ext T60 E;clear HC;refine aW 4 ?_;refine bJ 11 ?_;refine sn 11 E 1 zT kQ ?_;intro w64 JF;refine aW 3 ?_;have wZ:St w.heap.size w w64 [_,_,_,_,_,_,_,_,_]:=JF.re [1,0,2,3,4,5,6,7,8] dQ;refine eO (b52,A55,c56,I,J,m31) ?_ lU;exact wZ
      refine nT 10 E O iN ?_;intro b68 w69 Cq;refine dI ?_;refine bJ 3 ?_;refine kG (i:=3) E E (v:=.func (.func 116) #[] #[pV I 0,pV J 0]) (wn E) E E (lY 3 Cq E E E E underlying3 underlying173 (zeroValue172 _) hkr (au E)) ?_;refine dI ?_;refine bJ 6 ?_;have HC:=ho I J Y Y _ (St.rd 7 Cq E) hb (St.nP (xs:=[D z]) 1 Cq E E E) (St.nP (xs:=[.func (.func F) #[] #[]]) 2 Cq E E E);rw[hM]at HC;refine pU 6 E eQ (HC) ?_;rintro _ w74 ⟨A71,c72,aKR,rfl,T76⟩;refine⟨_,E,?_⟩;have Jy:=Cq.ext T76 E;clear HC;refine aW 4 ?_;refine bJ 11 ?_;refine sn 11 E 1 Jy kQ ?_;intro w80 yw;refine aW 3 ?_;have Fv:St w.heap.size w w80 [_,_,_,_,_,_,_,_,_]:=yw.re [1,0,2,3,4,5,6,7,8] dQ;refine eO (b68,A71,c72,I,J,m31) ?_ lU;exact Fv
     refine nT 10 E vK iN ?_;intro b84 w85 Ei;refine dI ?_;refine bJ 0 ?_;refine ku 0 E eQ (hra _) ?_;rintro _ w90 ⟨m87,d88,g89,rfl,T92⟩;refine⟨_,E,?_⟩;have Uo:=Ei.ext T92 E;refine dI ?_;refine bJ 3 ?_;refine kG (i:=3) E E (v:=.func (.func 116) #[] #[pV d88 0,pV g89 0]) (wn E) E E (lY 2 Uo E E E E underlying3 underlying173 (zeroValue172 _) hkr (au E)) ?_;refine dI ?_;refine bJ 6 ?_;have HC:=ho d88 g89 Y Y _ (St.rd 7 Uo E) hb (St.nP (xs:=[D z]) 0 Uo E E E) (St.nP (xs:=[.func (.func F) #[] #[]]) 1 Uo E E E);rw[hM]at HC;refine pU 6 E eQ (HC) ?_;rintro _ w96 ⟨A93,c94,aKS,rfl,T98⟩;refine⟨_,E,?_⟩;have II:=Uo.ext T98 E;clear HC;refine aW 4 ?_;refine bJ 11 ?_;refine sn 11 E 4 II kQ ?_;intro aq2 xX;refine aW 3 ?_;have vH:St w.heap.size w aq2 [_,_,_,_,_,_,_,_,_]:=xX.re [4,0,1,2,3,5,6,7,8] dQ;refine eO (b84,A93,c94,d88,g89,m87) ?_ lU;exact vH
    rintro⟨akV,ZG,ZH,aOU,aOV,aOW⟩ aes xW
    try dsimp only at xW
    refine cB (l':=[(4,pV b7 0),(5,D 0),(8,pV akV 0),(9,D R.2)]) lU (bH (bH (aL (vm ?_))));by_cases JG:R.2=0
    ·refine zN 7 ?_;have sS:=xW.nil 49 6;refine zN 3 ?_;refine eG (news:=(R.1.Jp).flatMap Ev.cells) (xs':=(R.1.Jp).flatMap Ev.cells) 0 sS (wn E) E E E E E E (St.dR 2 sS E) underlying40 tK E dQ (gX _) lQ Y (E) ?_;intro aFT c117 arG aKT aKU zV;refine zQ ?_;refine J7 1 zV kQ ?_;intro aqQ Cw;refine zN 5 ?_;refine sa 6 Cw kQ ?_;intro awm Vm;refine zN 5 ?_;have zU:=Vm.bq [9,8,7,6,5,4,3,2,1];rw[mD M Z uQ (by rw[hR];exact JG),hR];rw[fU]at zU⊢;exact⟨aFT,c117,(fH (zU.own 0 E)).1,E,zU.bZ 0 E⟩
    refine zN 6 ?_;refine vv kL ?_;refine sa 5 xW kQ ?_;intro ad9 E8;refine zN 6 ?_;have CB:=E8.bq [8,7,6,5,4,3,2,1,0];rw[xI M Z (by rw[hR];exact JG)];exact⟨none,0,iR 0,E,aI CB⟩
   refine zN 8 ?_;refine vv kL ?_;refine sa 0 xq kQ ?_;intro arH Bv;refine zN 6 ?_;have Bo:=Bv.bq [3,2,1,0];rw[DI M Z uQ];exact⟨none,0,iR 0,E,aI Bo⟩
  refine zN 6 ?_;refine vv kL ?_;refine zQ ?_;refine sa 0 kP kQ ?_;intro aeh Cx;refine zN 6 ?_;have OI:=Cx.bq [3,2,1,0];rw[Da M Z];exact⟨none,0,iR 0,E,aI OI⟩
 refine zN 6 ?_;refine vv kL ?_;refine zQ ?_;refine sa 0 EJ kQ ?_;intro aeu G8;refine zN 6 ?_;have GZ:=G8.bq [3,2,1,0];rw[C9 M];exact⟨none,0,iR 0,E,aI GZ⟩
def ajF(ro ep fr tg rd:Int)(A:Option Addr)(c:Nat)(l:List Ev)(qu e pe:Int)(x:Ev)(I:l.length<=c)(w:World)(h:Rd w w.heap.size 6 A l.length (bU l))(J:l.length*48<=reachBytes):
 Calls tP 60 #[.agg #[D ro,D ep,D fr,D tg,D rd,.slice A l.length c],.agg (rR 2 qu e pe x)] w (oJ w (fO ⟨ro,ep,fr,tg,rd,l⟩ ⟨2,qu,e,pe,x⟩)):=
 Hy (z:=1) (F:=105) ro ep fr tg rd A c l qu e pe x dQ dQ ahD ajr (λb1 b2 h1 M=>Wh ro ep fr tg rd A c l 2 qu e pe x _ b1 b2 h1) I w h J
def ajG(ro ep fr tg rd:Int)(A:Option Addr)(c:Nat)(l:List Ev)(qu e pe:Int)(x:Ev)(I:l.length<=c)(w:World)(h:Rd w w.heap.size 6 A l.length (bU l))(J:l.length*48<=reachBytes):
 Calls tP 60 #[.agg #[D ro,D ep,D fr,D tg,D rd,.slice A l.length c],.agg (rR 5 qu e pe x)] w (oJ w (fO ⟨ro,ep,fr,tg,rd,l⟩ ⟨5,qu,e,pe,x⟩)):=
 Hy (z:=4) (F:=105) ro ep fr tg rd A c l qu e pe x dQ dQ ahE ajs (λb1 b2 h1 M=>Wh ro ep fr tg rd A c l 5 qu e pe x _ b1 b2 h1) I w h J
def ajH(ro ep fr tg rd:Int)(A:Option Addr)(c:Nat)(l:List Ev)(qu e pe:Int)(x:Ev)(I:l.length<=c)(w:World)(h:Rd w w.heap.size 6 A l.length (bU l))(J:l.length*48<=reachBytes):
 Calls tP 60 #[.agg #[D ro,D ep,D fr,D tg,D rd,.slice A l.length c],.agg (rR 6 qu e pe x)] w (oJ w (fO ⟨ro,ep,fr,tg,rd,l⟩ ⟨6,qu,e,pe,x⟩)):=
 Hy (z:=4) (F:=108) ro ep fr tg rd A c l qu e pe x dQ dQ auI ajt (λb1 b2 h1 M=>ajm ro ep fr tg rd A c l 6 qu e pe x _ b1 b2 I) I w h J
def ajI(ro ep fr tg rd:Int)(A:Option Addr)(c:Nat)(l:List Ev)(qu e pe:Int)(x:Ev)(I:l.length<=c)(w:World)(h:Rd w w.heap.size 6 A l.length (bU l))(J:l.length*48<=reachBytes):
 Calls tP 60 #[.agg #[D ro,D ep,D fr,D tg,D rd,.slice A l.length c],.agg (rR 7 qu e pe x)] w (oJ w (fO ⟨ro,ep,fr,tg,rd,l⟩ ⟨7,qu,e,pe,x⟩)):=
 Hy (z:=3) (F:=109) ro ep fr tg rd A c l qu e pe x dQ dQ auJ aju (λb1 b2 h1 M=>ajn ro ep fr tg rd A c l 7 qu e pe x _ b1 b2 M) I w h J
def ahV{P:Program}{t:TypeId}{xo yo:Operand}{w:World}{a b:Int}(h:0<=a)(I:0<b):(do eqGuard .rem t xo yo (D a) (D b);binOp .rem t (D a) (D b):Sem Value).run P w=.ok (D (a % b)) w:=by
 obtain⟨k,rfl⟩:=pQ h;obtain⟨m,rfl⟩:=pQ (Td I);exact Y1 (c:=k % m) E Y
def aAg{P:Program}{w:World}{x:Int}(h: -9223372036854775807<=x/\x<=9223372036854775807):(Op.unary .neg (D x)).run P w=.ok (D (-x)) w:=by
 simp[Op.unary,Op.intArith,Int.zero_sub,UU (z:= -x) Y Y]
def bE(n m:Int):Int:=(if n<0 then-(n+1)else n) % m
def pX{n m:Int}(h:0<m):0<=bE n m/\bE n m<m:=⟨Int.emod_nonneg _ Y,Int.emod_lt_of_pos _ h⟩
def qo(k a b c:Int):Ev:=
 if bE k 8<3 then⟨1,bE a 2,bE b 24,bE c 1000,0,0⟩else if bE k 8<5 then⟨2,0,0,0,0,0⟩
 else if bE k 8<7 then⟨3,0,0,0,bE a 3,bE b 6⟩else⟨4,0,0,0,0,0⟩
structure Gr where
 kd:Int
 a:Int
 b:Int
 c:Int
 d:Int
def Gr.cells(g:Gr):List Value:=[D g.kd,D g.a,D g.b,D g.c,D g.d]
def Oc(x:Int):Prop:= -9223372036854775808<=x/\x<=9223372036854775807
def Gr.ok(g:Gr):Prop:=Oc g.kd/\Oc g.a/\Oc g.b/\Oc g.c/\Oc g.d
def Pg(g:Gr)(e:Ev):Ac:=⟨2,bE g.a 3,bE g.b 2,0,0,if e.kind=4 then 2 else e.kind,e.OU,e.id,e.body,e.OZ,e.PX⟩
def iG(g:Gr)(cr:Bool):Ac:=
 if bE g.kd 24<7 then Pg g (qo g.c g.a g.d g.d)
 else if bE g.kd 24<13 then⟨3,bE g.a 3,0,0,0,0,0,0,0,0,0⟩
 else if bE g.kd 24=13 then⟨4,0,0,bE g.c 20,0,0,0,0,0,0,0⟩
 else if bE g.kd 24=14 then⟨5,0,0,bE g.c 20,0,0,0,0,0,0,0⟩
 else if bE g.kd 24=15 then⟨6,0,0,bE g.c 20,0,0,0,0,0,0,0⟩
 else if bE g.kd 24=16 then⟨10,bE g.a 3,bE g.b 2,0,0,0,0,0,0,0,0⟩
 else if bE g.kd 24=17/\cr=true then⟨8,bE g.a 3,0,0,bE g.c 120,0,0,0,0,0,0⟩
 else if bE g.kd 24=18/\cr=true then⟨9,bE g.a 3,0,0,0,0,0,0,0,0,0⟩
 else⟨7,0,0,0,0,0,0,0,0,0,0⟩
def iy{n m:Int}(hn: -9223372036854775808<=n/\n<=9223372036854775807)(h:0<m)(w:World):
 Calls prog 17 #[D n,D m] w (λe w'=>e=.returned (D (bE n m))/\w'=w):=by
 have S:=St.start w;refine jc 13 func17 ?_;refine cw [0,1] ?_;refine zN 9 ?_;by_cases h1:n<0
 ·refine zN 6 ?_;refine vv (v:=D (n+1)) jW ?_;refine vv (v:=D (-(n+1))) (ag9 E E (aAg Y)) ?_;refine zN 7 ?_;refine vv (v:=D ((-(n+1)) % m)) (cK E E E (ahV Y h)) ?_;refine zN 5 ?_;rw[show bE n m=((-(n+1)) % m)from by unfold bE;first|rw[au Y]|rw[ah Y]];exact⟨E,E⟩
 refine zN 10 ?_;refine vv (v:=D (n % m)) (cK E E E (ahV Y h)) ?_;refine zN 5 ?_;rw[show bE n m=(n % m)from by unfold bE;first|rw[au Y]|rw[ah Y]];exact⟨E,E⟩
def lJ{n m:Int}(hn: -9223372036854775808<=n/\n<=9223372036854775807)(h:0<m)(w:World):
 Calls prog 11 #[D n,D m] w (λe w'=>e=.returned (D (bE n m))/\w'=w):=by
 have S:=St.start w;refine jc 8 func11 ?_;refine cw [0,1] ?_;refine zN 9 ?_;refine dZ eQ (iy hn h _) ?_;rintro _ I ⟨rfl,rfl⟩;refine⟨_,E,?_⟩;refine zN 5 ?_;exact⟨E,E⟩
def Yp{k a b c:Int}(h1:Oc k)(h2:Oc a)(h3:Oc b)(h4:Oc c)(w:World):
 Calls prog 27 #[.agg #[D k,D a,D b,D c]] w (λe w'=>e=.returned (.agg (Ev.cells (qo k a b c)).toArray)/\Below w.heap.size w w'):=by
 have S:=St.start w;refine jc 36 func27 ?_;refine cw [0] ?_;refine zN 2 ?_;refine jT S ?_;intro b1 w2 S3;refine iU S3 adT ?_;intro b4 w5 O;refine zQ ?_;refine YG (vv (vP 0 abN) ?_);refine zQ ?_;refine dZ D7 (iy (m:=8) h1 (by decide) _) ?_;rintro _ w7 ⟨rfl,rfl⟩;refine⟨_,E,?_⟩;refine zN 5 ?_;have hp:=pX (n:=k) (m:=8) (by decide);refine zQ ?_;by_cases h8:(bE k 8)=0
 ·refine zN 9 ?_;have Z:=O.drew;refine gV 11 10 Z [] ?_;refine gk (v:=.pointer (some ⟨b1,1,none⟩)) 0 E Z (λ_ _=>vP _ Du) ?_;refine ji ?_;refine gk (v:=.pointer (some ⟨b1,2,none⟩)) 3 E Z (λ_ _=>vP _ Dv) ?_;refine ji ?_;refine gk (v:=.pointer (some ⟨b1,3,none⟩)) 6 E Z (λ_ _=>vP _ KP) ?_;refine ji ?_;refine gI (m:=4) (r:=2) (by kernel_rfl) ?_;refine nN (i:=2) E E (wn E) E E (kF (vs:=[D a,D 2]) E D7 ⟨E,E,trivial⟩) (iy (m:=2) h2 (by decide) _) ?_;rintro _ w16 ⟨rfl,rfl⟩;refine⟨_,E,?_⟩;refine ji ?_;refine gI (m:=3) (r:=5) (by kernel_rfl) ?_;refine nN (i:=5) E E (wn E) E E (kF (vs:=[D b,D 24]) E D7 ⟨E,E,trivial⟩) (iy (m:=24) h3 (by decide) _) ?_;rintro _ Pp ⟨rfl,rfl⟩;refine⟨_,E,?_⟩;refine ji ?_;refine gI (m:=2) (r:=8) (by kernel_rfl) ?_;refine nN (i:=8) E E (wn E) E E (kF (vs:=[D c,D 1000]) E D7 ⟨E,E,trivial⟩) (iy (m:=1000) h4 (by decide) _) ?_;rintro _ Pq ⟨rfl,rfl⟩;refine⟨_,E,?_⟩;refine ji ?_;refine gk (v:=.agg #[D 1,D (bE a 2),D (bE b 24),D (bE c 1000),D 0,D 0]) 9 E Z (λ_ _=>iJ) ?_;refine gF (by kernel_rfl) E E E ?_;refine sa 0 Z Dr ?_;intro w20 xM;refine zQ ?_;refine kC ?_;refine zN 5 ?_;rw[show qo k a b c=⟨1,(bE a 2),(bE b 24),(bE c 1000),0,0⟩from by unfold qo;first|rw[au (by omega)]|rw[ah (by omega),au (by omega)]|rw[ah (by omega),ah (by omega),au (by omega)]|rw[ah (by omega),ah (by omega),ah (by omega)]];exact⟨E,xM.Qe⟩
 refine zN 7 ?_;by_cases h22:(bE k 8)=1
 ·refine zN 9 ?_;have h:=O.drew;refine gV 11 10 h [] ?_;refine gk (v:=.pointer (some ⟨b1,1,none⟩)) 0 E h (λ_ _=>vP _ Du) ?_;refine ji ?_;refine gk (v:=.pointer (some ⟨b1,2,none⟩)) 3 E h (λ_ _=>vP _ Dv) ?_;refine ji ?_;refine gk (v:=.pointer (some ⟨b1,3,none⟩)) 6 E h (λ_ _=>vP _ KP) ?_;refine ji ?_;refine gI (m:=4) (r:=2) (by kernel_rfl) ?_;refine nN (i:=2) E E (wn E) E E (kF (vs:=[D a,D 2]) E D7 ⟨E,E,trivial⟩) (iy (m:=2) h2 (by decide) _) ?_;rintro _ YM ⟨rfl,rfl⟩;refine⟨_,E,?_⟩;refine ji ?_;refine gI (m:=3) (r:=5) (by kernel_rfl) ?_;refine nN (i:=5) E E (wn E) E E (kF (vs:=[D b,D 24]) E D7 ⟨E,E,trivial⟩) (iy (m:=24) h3 (by decide) _) ?_;rintro _ w31 ⟨rfl,rfl⟩;refine⟨_,E,?_⟩;refine ji ?_;refine gI (m:=2) (r:=8) (by kernel_rfl) ?_;refine nN (i:=8) E E (wn E) E E (kF (vs:=[D c,D 1000]) E D7 ⟨E,E,trivial⟩) (iy (m:=1000) h4 (by decide) _) ?_;rintro _ w32 ⟨rfl,rfl⟩;refine⟨_,E,?_⟩;refine ji ?_;refine gk (v:=.agg #[D 1,D (bE a 2),D (bE b 24),D (bE c 1000),D 0,D 0]) 9 E h (λ_ _=>iJ) ?_;refine gF (by kernel_rfl) E E E ?_;refine sa 0 h Dr ?_;intro w34 CV;refine zQ ?_;refine kC ?_;refine zN 5 ?_;rw[show qo k a b c=⟨1,(bE a 2),(bE b 24),(bE c 1000),0,0⟩from by unfold qo;first|rw[au (by omega)]|rw[ah (by omega),au (by omega)]|rw[ah (by omega),ah (by omega),au (by omega)]|rw[ah (by omega),ah (by omega),ah (by omega)]];exact⟨E,CV.Qe⟩
 refine zN 6 ?_;by_cases BZ:(bE k 8)=2
 ·refine zN 6 ?_;have I:=O.drew;refine gV 11 10 I [] ?_;refine gk (v:=.pointer (some ⟨b1,1,none⟩)) 0 E I (λ_ _=>vP _ Du) ?_;refine ji ?_;refine gk (v:=.pointer (some ⟨b1,2,none⟩)) 3 E I (λ_ _=>vP _ Dv) ?_;refine ji ?_;refine gk (v:=.pointer (some ⟨b1,3,none⟩)) 6 E I (λ_ _=>vP _ KP) ?_;refine ji ?_;refine gI (m:=4) (r:=2) (by kernel_rfl) ?_;refine nN (i:=2) E E (wn E) E E (kF (vs:=[D a,D 2]) E D7 ⟨E,E,trivial⟩) (iy (m:=2) h2 (by decide) _) ?_;rintro _ Un ⟨rfl,rfl⟩;refine⟨_,E,?_⟩;refine ji ?_;refine gI (m:=3) (r:=5) (by kernel_rfl) ?_;refine nN (i:=5) E E (wn E) E E (kF (vs:=[D b,D 24]) E D7 ⟨E,E,trivial⟩) (iy (m:=24) h3 (by decide) _) ?_;rintro _ w45 ⟨rfl,rfl⟩;refine⟨_,E,?_⟩;refine ji ?_;refine gI (m:=2) (r:=8) (by kernel_rfl) ?_;refine nN (i:=8) E E (wn E) E E (kF (vs:=[D c,D 1000]) E D7 ⟨E,E,trivial⟩) (iy (m:=1000) h4 (by decide) _) ?_;rintro _ w46 ⟨rfl,rfl⟩;refine⟨_,E,?_⟩;refine ji ?_;refine gk (v:=.agg #[D 1,D (bE a 2),D (bE b 24),D (bE c 1000),D 0,D 0]) 9 E I (λ_ _=>iJ) ?_;refine gF (by kernel_rfl) E E E ?_;refine sa 0 I Dr ?_;intro YR yM;refine zQ ?_;refine kC ?_;refine zN 5 ?_;rw[show qo k a b c=⟨1,(bE a 2),(bE b 24),(bE c 1000),0,0⟩from by unfold qo;first|rw[au (by omega)]|rw[ah (by omega),au (by omega)]|rw[ah (by omega),ah (by omega),au (by omega)]|rw[ah (by omega),ah (by omega),ah (by omega)]];exact⟨E,yM.Qe⟩
 refine zN 8 ?_;by_cases h50:(bE k 8)=3
 ·refine zN 10 ?_;refine vv (v:=.agg #[D 2,D 0,D 0,D 0,D 0,D 0]) iJ ?_;refine sa 0 O Dr ?_;intro w51 qO;refine zN 6 ?_;rw[show qo k a b c=⟨2,0,0,0,0,0⟩from by unfold qo;first|rw[au (by omega)]|rw[ah (by omega),au (by omega)]|rw[ah (by omega),ah (by omega),au (by omega)]|rw[ah (by omega),ah (by omega),ah (by omega)]];exact⟨E,qO.Qe⟩
 refine zN 6 ?_;by_cases h53:(bE k 8)=4
 ·refine zN 7 ?_;refine vv (v:=.agg #[D 2,D 0,D 0,D 0,D 0,D 0]) iJ ?_;refine sa 0 O Dr ?_;intro w54 yL;refine zN 6 ?_;rw[show qo k a b c=⟨2,0,0,0,0,0⟩from by unfold qo;first|rw[au (by omega)]|rw[ah (by omega),au (by omega)]|rw[ah (by omega),ah (by omega),au (by omega)]|rw[ah (by omega),ah (by omega),ah (by omega)]];exact⟨E,yL.Qe⟩
 refine zN 8 ?_;by_cases h56:(bE k 8)=5
 ·refine zN 9 ?_;have J:=O.drew;refine gV 9 8 J [] ?_;refine gk (v:=.pointer (some ⟨b1,1,none⟩)) 0 E J (λ_ _=>vP _ Du) ?_;refine ji ?_;refine gk (v:=.pointer (some ⟨b1,2,none⟩)) 3 E J (λ_ _=>vP _ Dv) ?_;refine ji ?_;refine gI (m:=4) (r:=2) (by kernel_rfl) ?_;refine nN (i:=2) E E (wn E) E E (kF (vs:=[D a,D 3]) E D7 ⟨E,E,trivial⟩) (iy (m:=3) h2 (by decide) _) ?_;rintro _ w62 ⟨rfl,rfl⟩;refine⟨_,E,?_⟩;refine ji ?_;refine gI (m:=3) (r:=5) (by kernel_rfl) ?_;refine nN (i:=5) E E (wn E) E E (kF (vs:=[D b,D 6]) E D7 ⟨E,E,trivial⟩) (iy (m:=6) h3 (by decide) _) ?_;rintro _ w63 ⟨rfl,rfl⟩;refine⟨_,E,?_⟩;refine ji ?_;refine gk (v:=.agg #[D (bE a 3),D (bE b 6)]) 6 E J (λ_ _=>iJ) ?_;refine gk (v:=.agg #[D 3,D 0,D 0,D 0,D (bE a 3),D (bE b 6)]) 7 E J (λ_ _=>iJ) ?_;refine gF (by kernel_rfl) E E E ?_;refine sa 0 J Dr ?_;intro YP wZ;refine zQ ?_;refine kC ?_;refine zN 5 ?_;rw[show qo k a b c=⟨3,0,0,0,(bE a 3),(bE b 6)⟩from by unfold qo;first|rw[au (by omega)]|rw[ah (by omega),au (by omega)]|rw[ah (by omega),ah (by omega),au (by omega)]|rw[ah (by omega),ah (by omega),ah (by omega)]];exact⟨E,wZ.Qe⟩
 refine zN 6 ?_;by_cases h68:(bE k 8)=6
 ·refine zN 6 ?_;have M:=O.drew;refine gV 9 8 M [] ?_;refine gk (v:=.pointer (some ⟨b1,1,none⟩)) 0 E M (λ_ _=>vP _ Du) ?_;refine ji ?_;refine gk (v:=.pointer (some ⟨b1,2,none⟩)) 3 E M (λ_ _=>vP _ Dv) ?_;refine ji ?_;refine gI (m:=4) (r:=2) (by kernel_rfl) ?_;refine nN (i:=2) E E (wn E) E E (kF (vs:=[D a,D 3]) E D7 ⟨E,E,trivial⟩) (iy (m:=3) h2 (by decide) _) ?_;rintro _ w74 ⟨rfl,rfl⟩;refine⟨_,E,?_⟩;refine ji ?_;refine gI (m:=3) (r:=5) (by kernel_rfl) ?_;refine nN (i:=5) E E (wn E) E E (kF (vs:=[D b,D 6]) E D7 ⟨E,E,trivial⟩) (iy (m:=6) h3 (by decide) _) ?_;rintro _ w75 ⟨rfl,rfl⟩;refine⟨_,E,?_⟩;refine ji ?_;refine gk (v:=.agg #[D (bE a 3),D (bE b 6)]) 6 E M (λ_ _=>iJ) ?_;refine gk (v:=.agg #[D 3,D 0,D 0,D 0,D (bE a 3),D (bE b 6)]) 7 E M (λ_ _=>iJ) ?_;refine gF (by kernel_rfl) E E E ?_;refine sa 0 M Dr ?_;intro w78 Fu;refine zQ ?_;refine kC ?_;refine zN 5 ?_;rw[show qo k a b c=⟨3,0,0,0,(bE a 3),(bE b 6)⟩from by unfold qo;first|rw[au (by omega)]|rw[ah (by omega),au (by omega)]|rw[ah (by omega),ah (by omega),au (by omega)]|rw[ah (by omega),ah (by omega),ah (by omega)]];exact⟨E,Fu.Qe⟩
 refine zN 10 ?_;refine vv (v:=.agg #[D 4,D 0,D 0,D 0,D 0,D 0]) iJ ?_;refine sa 0 O Dr ?_;intro w80 yw;refine zN 4 ?_;rw[show qo k a b c=⟨4,0,0,0,0,0⟩from by unfold qo;first|rw[au (by omega)]|rw[ah (by omega),au (by omega)]|rw[ah (by omega),ah (by omega),au (by omega)]|rw[ah (by omega),ah (by omega),ah (by omega)]];exact⟨E,yw.Qe⟩
def Yq{k a b c:Int}(h1:Oc k)(J:Oc a)(M:Oc b)(O:Oc c)(w:World):
 Calls prog 22 #[.agg #[D k,D a,D b,D c]] w (λe w'=>e=.returned (.agg (Ev.cells (qo k a b c)).toArray)/\Below w.heap.size w w'):=by
 have S:=St.start w;refine jc 5 func22 ?_;refine cw [0] ?_;refine zN 2 ?_;refine jT S ?_;intro b1 w2 Z;refine iU Z adT ?_;intro b4 w5 I;refine zQ ?_;refine agF (vv (aA E E (rG 1 I E underlying85 E kQ E)) ?_);refine UR eQ I (Yp h1 J M O _) ?_;intro w7 S8;refine sa 0 S8 kQ ?_;intro w10 h;refine zN 4 ?_;exact⟨E,h.Qe⟩
def afB{g:Gr}(h:g.ok)(cr:Bool)(w:World):
 Calls prog 15 #[.agg #[D g.kd,D g.a,D g.b,D g.c,D g.d],.bool cr] w (λe w'=>e=.returned (.agg (Ac.cells (iG g cr)).toArray)/\Below w.heap.size w w'):=by
 have S:=St.start w;refine jc 91 func15 ?_;refine cw [0,1] ?_;refine zN 2 ?_;refine jT S ?_;intro b1 w2 S3;refine iU S3 akD ?_;intro b4 w5 I;refine zQ ?_;refine agF (vv (vP 1 SE) ?_);refine zQ ?_;refine dZ Vi (lJ (m:=3) h.2.1 (by decide) _) ?_;rintro _ w7 ⟨rfl,rfl⟩;refine⟨_,E,?_⟩;refine zN 2 ?_;refine agF (vv (vP 2 abL) ?_);refine zQ ?_;refine dZ Vi (lJ (m:=2) h.2.2.1 (by decide) _) ?_;rintro _ w8 ⟨rfl,rfl⟩;refine⟨_,E,?_⟩;refine zN 2 ?_;refine YG (vv (vP 0 abK) ?_);refine zQ ?_;refine dZ Vi (lJ (m:=24) h.1 (by decide) _) ?_;rintro _ w9 ⟨rfl,rfl⟩;refine⟨_,E,?_⟩;refine zN 7 ?_;by_cases h10:(bE g.kd 24)<7
 ·refine zN 3 ?_;refine EG (vv (vP 3 Dt) ?_);refine zQ ?_;refine vv (vP 1 SE) ?_;refine zQ ?_;refine vv (vP 4 SF) ?_;refine zQ ?_;refine vv (vP 4 SF) ?_;refine zQ ?_;refine vv (v:=.agg #[D g.c,D g.a,D g.d,D g.d]) iJ ?_;refine UR aC2 I (Yq h.2.2.2.1 h.2.1 h.2.2.2.2 h.2.2.2.2 _) ?_;intro L6 M;refine iU M adT ?_;intro b14 NP O;refine sa 0 O Dr ?_;intro Pp J;refine zN 7 ?_;by_cases h19:(qo g.c g.a g.d g.d).kind=4
  ·refine zN 6 ?_;refine J7 0 J avS ?_;intro w20 Z;refine zN 7 ?_;refine vv (v:=.agg #[D 2,D (bE g.a 3),D (bE g.b 2),D 0,D 0,D 2,D ((qo g.c g.a g.d g.d).OU),D ((qo g.c g.a g.d g.d).id),D ((qo g.c g.a g.d g.d).body),D ((qo g.c g.a g.d g.d).OZ),D ((qo g.c g.a g.d g.d).PX)]) iJ ?_;refine sa 1 Z wW ?_;intro w22 xq;refine zN 6 ?_;rw[show iG g cr=⟨2,(bE g.a 3),(bE g.b 2),0,0,2,(qo g.c g.a g.d g.d).OU,(qo g.c g.a g.d g.d).id,(qo g.c g.a g.d g.d).body,(qo g.c g.a g.d g.d).OZ,(qo g.c g.a g.d g.d).PX⟩from by unfold iG;rw[au (by omega),Pg,au (by assumption)]];exact⟨E,xq.Qe⟩
  refine zN 11 ?_;refine vv (v:=.agg #[D 2,D (bE g.a 3),D (bE g.b 2),D 0,D 0,D ((qo g.c g.a g.d g.d).kind),D ((qo g.c g.a g.d g.d).OU),D ((qo g.c g.a g.d g.d).id),D ((qo g.c g.a g.d g.d).body),D ((qo g.c g.a g.d g.d).OZ),D ((qo g.c g.a g.d g.d).PX)]) iJ ?_;refine sa 1 J wW ?_;intro QL nH;refine zN 6 ?_;rw[show iG g cr=⟨2,(bE g.a 3),(bE g.b 2),0,0,(qo g.c g.a g.d g.d).kind,(qo g.c g.a g.d g.d).OU,(qo g.c g.a g.d g.d).id,(qo g.c g.a g.d g.d).body,(qo g.c g.a g.d g.d).OZ,(qo g.c g.a g.d g.d).PX⟩from by unfold iG;rw[au (by omega),Pg,ah (by assumption)]];exact⟨E,nH.Qe⟩
 refine zN 8 ?_;by_cases h26:(bE g.kd 24)<13
 ·refine zN 8 ?_;refine vv (v:=.agg #[D 3,D (bE g.a 3),D 0,D 0,D 0,D 0,D 0,D 0,D 0,D 0,D 0]) iJ ?_;refine sa 0 I wW ?_;intro QF vR;refine zN 6 ?_;rw[show iG g cr=⟨3,(bE g.a 3),0,0,0,0,0,0,0,0,0⟩from by unfold iG;rw[ah (by omega),au (by omega)]];exact⟨E,vR.Qe⟩
 refine zN 8 ?_;by_cases h29:(bE g.kd 24)=13
 ·refine zN 3 ?_;refine EG (vv (vP 3 Dt) ?_);refine zQ ?_;refine dZ Vi (lJ (m:=20) h.2.2.2.1 (by decide) _) ?_;rintro _ YM ⟨rfl,rfl⟩;refine⟨_,E,?_⟩;refine vv (v:=.agg #[D 4,D 0,D 0,D (bE g.c 20),D 0,D 0,D 0,D 0,D 0,D 0,D 0]) iJ ?_;refine sa 0 I wW ?_;intro w31 wP;refine zN 6 ?_;rw[show iG g cr=⟨4,0,0,(bE g.c 20),0,0,0,0,0,0,0⟩from by unfold iG;rw[ah (by omega),ah (by omega),au (by omega)]];exact⟨E,wP.Qe⟩
 refine zN 8 ?_;by_cases h33:(bE g.kd 24)=14
 ·refine zN 3 ?_;refine EG (vv (vP 3 Dt) ?_);refine zQ ?_;refine dZ Vi (lJ (m:=20) h.2.2.2.1 (by decide) _) ?_;rintro _ w34 ⟨rfl,rfl⟩;refine⟨_,E,?_⟩;refine vv (v:=.agg #[D 5,D 0,D 0,D (bE g.c 20),D 0,D 0,D 0,D 0,D 0,D 0,D 0]) iJ ?_;refine sa 0 I wW ?_;intro w35 vU;refine zN 6 ?_;rw[show iG g cr=⟨5,0,0,(bE g.c 20),0,0,0,0,0,0,0⟩from by unfold iG;rw[ah (by omega),ah (by omega),ah (by omega),au (by omega)]];exact⟨E,vU.Qe⟩
 refine zN 8 ?_;by_cases h37:(bE g.kd 24)=15
 ·refine zN 3 ?_;refine EG (vv (vP 3 Dt) ?_);refine zQ ?_;refine dZ Vi (lJ (m:=20) h.2.2.2.1 (by decide) _) ?_;rintro _ w38 ⟨rfl,rfl⟩;refine⟨_,E,?_⟩;refine vv (v:=.agg #[D 6,D 0,D 0,D (bE g.c 20),D 0,D 0,D 0,D 0,D 0,D 0,D 0]) iJ ?_;refine sa 0 I wW ?_;intro w39 zh;refine zN 6 ?_;rw[show iG g cr=⟨6,0,0,(bE g.c 20),0,0,0,0,0,0,0⟩from by unfold iG;rw[ah (by omega),ah (by omega),ah (by omega),ah (by omega),au (by omega)]];exact⟨E,zh.Qe⟩
 refine zN 8 ?_;by_cases h41:(bE g.kd 24)=16
 ·refine zN 9 ?_;refine vv (v:=.agg #[D 10,D (bE g.a 3),D (bE g.b 2),D 0,D 0,D 0,D 0,D 0,D 0,D 0,D 0]) iJ ?_;refine sa 0 I wW ?_;intro YN wO;refine zN 6 ?_;rw[show iG g cr=⟨10,(bE g.a 3),(bE g.b 2),0,0,0,0,0,0,0,0⟩from by unfold iG;rw[ah (by omega),ah (by omega),ah (by omega),ah (by omega),ah (by omega),au (by omega)]];exact⟨E,wO.Qe⟩
 refine zN 6 ?_;have hp:=pX (n:=g.kd) (m:=24) (by decide)
 cases cr with
 |false=>
  refine zN 2 ?_;by_cases h44:(bE g.kd 24)=17
  ·refine zN 24 ?_;refine vv (v:=.agg #[D 7,D 0,D 0,D 0,D 0,D 0,D 0,D 0,D 0,D 0,D 0]) iJ ?_;refine sa 0 I wW ?_;intro w45 zf;refine zN 4 ?_;rw[show iG g false=⟨7,0,0,0,0,0,0,0,0,0,0⟩from by unfold iG;rw[ah (by omega),ah (by omega),ah (by omega),ah (by omega),ah (by omega),ah (by omega),ah (λh=>by have:=h.2;cases this),ah (λh=>by have:=h.2;cases this)]];exact⟨E,zf.Qe⟩
  refine zN 11 ?_;by_cases h47:(bE g.kd 24)=18
  ·refine zN 13 ?_;refine vv (v:=.agg #[D 7,D 0,D 0,D 0,D 0,D 0,D 0,D 0,D 0,D 0,D 0]) iJ ?_;refine sa 0 I wW ?_;intro YR yM;refine zN 4 ?_;rw[show iG g false=⟨7,0,0,0,0,0,0,0,0,0,0⟩from by unfold iG;rw[ah (by omega),ah (by omega),ah (by omega),ah (by omega),ah (by omega),ah (by omega),ah (λh=>by have:=h.2;cases this),ah (λh=>by have:=h.2;cases this)]];exact⟨E,yM.Qe⟩
  refine zN 13 ?_;refine vv (v:=.agg #[D 7,D 0,D 0,D 0,D 0,D 0,D 0,D 0,D 0,D 0,D 0]) iJ ?_;refine sa 0 I wW ?_;intro YO yK;refine zN 4 ?_;rw[show iG g false=⟨7,0,0,0,0,0,0,0,0,0,0⟩from by unfold iG;rw[ah (by omega),ah (by omega),ah (by omega),ah (by omega),ah (by omega),ah (by omega),ah (λh=>by have:=h.2;cases this),ah (λh=>by have:=h.2;cases this)]];exact⟨E,yK.Qe⟩
 |true=>
  refine zN 2 ?_;by_cases h52:(bE g.kd 24)=17
  ·refine zN 11 ?_;refine vv (vP 3 Dt) ?_;refine zQ ?_;refine dZ Vi (lJ (m:=120) h.2.2.2.1 (by decide) _) ?_;rintro _ w53 ⟨rfl,rfl⟩;refine⟨_,E,?_⟩;refine vv (v:=.agg #[D 8,D (bE g.a 3),D 0,D 0,D (bE g.c 120),D 0,D 0,D 0,D 0,D 0,D 0]) iJ ?_;refine sa 0 I wW ?_;intro w54 yL;refine zN 6 ?_;rw[show iG g true=⟨8,(bE g.a 3),0,0,(bE g.c 120),0,0,0,0,0,0⟩from by unfold iG;rw[ah (by omega),ah (by omega),ah (by omega),ah (by omega),ah (by omega),ah (by omega),au ⟨by omega,E⟩]];exact⟨E,yL.Qe⟩
  refine zN 11 ?_;by_cases h56:(bE g.kd 24)=18
  ·refine zN 11 ?_;refine vv (v:=.agg #[D 9,D (bE g.a 3),D 0,D 0,D 0,D 0,D 0,D 0,D 0,D 0,D 0]) iJ ?_;refine sa 0 I wW ?_;intro w57 FC;refine zN 6 ?_;rw[show iG g true=⟨9,(bE g.a 3),0,0,0,0,0,0,0,0,0⟩from by unfold iG;rw[ah (by omega),ah (by omega),ah (by omega),ah (by omega),ah (by omega),ah (by omega),ah (λh=>by have:=h.1;omega),au ⟨by omega,E⟩]];exact⟨E,FC.Qe⟩
  refine zN 13 ?_;refine vv (v:=.agg #[D 7,D 0,D 0,D 0,D 0,D 0,D 0,D 0,D 0,D 0,D 0]) iJ ?_;refine sa 0 I wW ?_;intro w59 YV;refine zN 4 ?_;rw[show iG g true=⟨7,0,0,0,0,0,0,0,0,0,0⟩from by unfold iG;rw[ah (by omega),ah (by omega),ah (by omega),ah (by omega),ah (by omega),ah (by omega),ah (λh=>by have:=h.1;omega),ah (λh=>by have:=h.1;omega)]];exact⟨E,YV.Qe⟩
def au1(x:Ac):∀u∈x.cells,u.oneCell'=true:=dx E
def ajJ(l:List Ac):∀u∈l.flatMap Ac.cells,u.oneCell'=true:=by
 intro u h;rw[Dj]at h;obtain⟨z,_,I⟩:=h;exact au1 z u I
def PG(k n:Int):Ac:=⟨k,n,0,0,0,0,0,0,0,0,0⟩
def mks:List Ac:=[⟨1,0,0,0,0,0,0,0,0,0,0⟩,⟨1,1,1,0,0,0,0,0,0,0,0⟩]
def aH(gs:List Gr)(m:Nat)(cr:Bool):List Ac:=mks++(gs.take m).map (iG · cr)
def Yr{gs:List Gr}{k:Nat}{g:Gr}{cr:Bool}(h:gs[k]? =some g):aH gs (k+1) cr=aH gs k cr++[iG g cr]:=by
 unfold aH;rw[qY,h];simp
def Od{gs:List Gr}{k m:Nat}{cr:Bool}(h1:k<=gs.length)(h:k<=m)(I:k=gs.length\/k=m):aH gs k cr=aH gs m cr:=by
 rcases I with rfl|rfl
 ·unfold aH;rw[kg aB,kg h]
 rfl
def Oe{gs:List Gr}{k:Nat}{cr:Bool}(h:k<=gs.length):(aH gs k cr).length=2+k:=by
 unfold aH mks;simp;omega
def starts(k:Nat):List Ac:=(range k).map λ(n:Nat)=>PG 9 (n:Int)
def steps(k:Nat):List Ac:=(range k).map λ(n:Nat)=>PG 3 (n:Int)
def Am:Nat->List Ac
 | 0=>[]
 |i+1=>Am i++steps 5++[PG 7 0]
def Ku(k:Nat):starts (k+1)=starts k++[PG 9 (k:Int)]:=by unfold starts;rw[range_succ,iP];rfl
def Og(k:Nat):steps (k+1)=steps k++[PG 3 (k:Int)]:=by unfold steps;rw[range_succ,iP];rfl
def Et(i:Nat):Am (i+1)=Am i++steps 5++[PG 7 0]:=rfl
def WG:∀i,(Am i).length=6*i
 | 0=>rfl
 |i+1=>by rw[Am,aZ,aZ,WG i];simp[steps];omega
def iB(l:List Ac)(r:Nat):List Ac:=l++starts 5++Am r
def Hz{l:List Ac}{r:Nat}:(iB l r).length=l.length+5+6*r:=by
 unfold iB;rw[aZ,aZ,WG];simp[starts]
def U2{gs:List Gr}{A:Option Addr}{c m:Nat}{cr:Bool}(hm:m<=1000)(hg:∀g∈gs,g.ok)(w:World)(h:Rd w w.heap.size 5 A gs.length (gs.flatMap Gr.cells)):
 Calls prog 7 #[.slice A gs.length c,D (m:Int),.bool cr] w (λe w'=> ∃A' c',e=.returned (.slice A' ((aH gs m cr).length) c')/\St w.heap.size w w' [.own 51 11 (.slice A' ((aH gs m cr).length) c') ((aH gs m cr).length) ((aH gs m cr).flatMap Ac.cells)]):=by
 have S:=(St.start w).dJ h;refine jc 35 func7 ?_;refine cw [0,1,2] ?_;refine zN 7 ?_;refine vv (v:=.agg #[D 1,D 0,D 0,D 0,D 0,D 0,D 0,D 0,D 0,D 0,D 0]) iJ ?_;refine vv (v:=.agg #[D 1,D 1,D 1,D 0,D 0,D 0,D 0,D 0,D 0,D 0,D 0]) iJ ?_;refine uw (V:=λb=>.slice (some ⟨b,0,none⟩) 2 2) (row:=(mks.flatMap Ac.cells).toArray) (t:=51) (n:=2) (s:=11) (xs:=mks.flatMap Ac.cells) S (wn E) E E (bD (vs:=[(0,.agg #[D 1,D 0,D 0,D 0,D 0,D 0,D 0,D 0,D 0,D 0,D 0]),(1,.agg #[D 1,D 1,D 1,D 0,D 0,D 0,D 0,D 0,D 0,D 0,D 0])]) E lU kQ) E dQ E ?_;intro b1 w2 S3;refine zN 10 ?_;refine iO (X:=Nat×(Option Addr)×Nat) (λJ=>[(0,.slice A gs.length c),(1,D (m:Int)),(2,.bool cr),(6,.slice none 0 0),(7,.slice J.2.1 (2+J.1) J.2.2),(8,D (J.1:Int))]) (λJ wr=>(J.1<=gs.length)/\(J.1<=m)/\St w.heap.size w wr [.own 51 11 (.slice J.2.1 (2+J.1) J.2.2) (2+J.1) ((aH gs J.1 cr).flatMap Ac.cells),.rd 5 A gs.length ((gs).flatMap Gr.cells)]) (λJ=>gs.length-J.1) (0,(some ⟨b1,0,none⟩),2) ?_ ?_ ?_
 ·exact⟨aG _,aG _,S3⟩
 ·exact uV
 rintro⟨k,Ab,cb⟩ w4 ⟨hi6,hi7,O⟩
 try dsimp only at hi6 hi7 O
 refine cB (l':=[(0,.slice A gs.length c),(1,D (m:Int)),(2,.bool cr),(6,.slice none 0 0),(7,.slice Ab (2+k) cb),(8,D (k:Int))]) uV (bH (bH (aL (vm ?_))));refine zQ ?_;refine vv (v:=D (gs.length:Int)) (uq (vs:=[.slice A gs.length c]) E tU1 λ_=>apf E underlying22) ?_;by_cases h8:(k:Int)< (gs.length:Int)
 ·refine zN 4 ?_;by_cases h9:(k:Int)< (m:Int)
  ·refine zN 13 ?_;obtain⟨b10,o11,rfl⟩:=Rd.addr (St.rd 1 O E) Y;obtain⟨I,M⟩:=NA k (St.rd 1 O E) Y;refine vv (v:=.pointer (some ⟨b10,o11+k*5,none⟩)) (bF E E E (rY k underlying22 kQ Y Y)) ?_;refine vv (aA E E (fu (cs:=Gr.cells I) (Rd.Bb (St.rd 1 O E) (λ_ _ h=>dF (enc:=Gr.cells) (sz:=5) (λ_=>E) M h)))) ?_;refine zQ ?_;refine UR eQ O (afB (hg _ (jN M)) cr _) ?_;intro Py kP;refine iU kP akD ?_;intro b17 Pq xg;refine sa 0 xg kQ ?_;intro w20 xM;refine zN 5 ?_;refine Uc xM ?_;intro b22 Ma Z;refine eG (news:=[D ((iG I cr).kd),D ((iG I cr).nd),D ((iG I cr).qu),D ((iG I cr).at_),D ((iG I cr).kp),D ((iG I cr).ek),D ((iG I cr).ep),D ((iG I cr).ei),D ((iG I cr).eb),D ((iG I cr).eh),D ((iG I cr).en)]) (xs':=(aH gs (k+1) cr).flatMap Ac.cells) 2 Z (wn E) E E E E E E (St.nP (xs:=[D ((iG I cr).kd),D ((iG I cr).nd),D ((iG I cr).qu),D ((iG I cr).at_),D ((iG I cr).kp),D ((iG I cr).ek),D ((iG I cr).ep),D ((iG I cr).ei),D ((iG I cr).eb),D ((iG I cr).eh),D ((iG I cr).en)]) 0 Z E E E) underlying23 Ch E dQ (dx E) lQ Y (jO (enc:=Ac.cells) (Yr M).symm E) ?_;intro A25 c26 QF hc29 aE7 vR;refine zN 6 ?_;refine vv (v:=D ((k+1:Nat):Int)) jW ?_;refine zN 2 ?_;have tu:=vR.bq [1,0];refine dL (k+1,A25,c26) ?_ uV (by first|omega|(dsimp only;omega));exact⟨uQ,uQ,tu⟩
  refine zN 18 ?_;have wP:=O.bq [1];rw[show aH gs m cr=aH gs k cr from(Od Y Y Y).symm,Oe Y];exact⟨Ab,cb,E,wP⟩
 refine zN 22 ?_;have yB:=O.bq [1];rw[show aH gs m cr=aH gs k cr from(Od Y Y Y).symm,Oe Y];exact⟨Ab,cb,E,yB⟩
def abl{l:List Ac}{A:Option Addr}{c r:Nat}(hr:r<=100000)(hl:l.length<=100000)(w:World)(h:Rd w w.heap.size 11 A l.length (l.flatMap Ac.cells)):
 Calls prog 9 #[.slice A l.length c,D (r:Int)] w (λe w'=> ∃A' c',e=.returned (.slice A' ((iB l r).length) c')/\St w.heap.size w w' [.own 51 11 (.slice A' ((iB l r).length) c') ((iB l r).length) ((iB l r).flatMap Ac.cells)]):=by
 have S:=(St.start w).dJ h;refine jc 39 func9 ?_;refine cw [0,1] ?_;refine zN 6 ?_;have S1:=S.nil 51 11;refine zN 2 ?_;refine eG (news:=(l).flatMap Ac.cells) (xs':=(l).flatMap Ac.cells) 0 S1 (wn E) E E E E E E (St.rd 1 S1 E) underlying23 Ch E dQ (ajJ _) lQ Y iQ ?_;intro A2 c3 w4 hc6 hm7 S5;refine zN 10 ?_;refine iO (X:=Nat×Nat×(Option Addr)×Nat) (λI=>[(1,D (r:Int)),(4,.slice none 0 0),(5,.slice I.2.2.1 I.2.1 I.2.2.2),(6,D (I.1:Int))]) (λI wr=>(I.1<=5)/\(I.2.1=l.length+I.1)/\St w.heap.size w wr [.own 51 11 (.slice I.2.2.1 I.2.1 I.2.2.2) I.2.1 ((l++starts I.1).flatMap Ac.cells),.rd 11 A l.length ((l).flatMap Ac.cells)]) (λI=>5-I.1) (0,0+l.length,A2,c3) ?_ ?_ ?_
 ·exact⟨aG _,by dsimp only;omega,by dsimp only;rw[show l++starts 0=l from bI l];exact S5⟩
 ·exact lU
 rintro⟨k,nb,Ab,cb⟩ w8 ⟨O,Z,S9⟩
 try dsimp only at O Z S9
 refine cB (l':=[(1,D (r:Int)),(4,.slice none 0 0),(5,.slice Ab nb cb),(6,D (k:Int))]) lU (bH (bH (aL (vm ?_))));by_cases h12:(k:Int)<5
 ·refine zN 11 ?_;refine vv (v:=.agg #[D 9,D (k:Int),D 0,D 0,D 0,D 0,D 0,D 0,D 0,D 0,D 0]) iJ ?_;refine Uc S9 ?_;intro b13 Py kP;refine eG (news:=[D 9,D (k:Int),D 0,D 0,D 0,D 0,D 0,D 0,D 0,D 0,D 0]) (xs':=(l++starts (k+1)).flatMap Ac.cells) 1 kP (wn E) E E E E E E (St.nP (xs:=[D 9,D (k:Int),D 0,D 0,D 0,D 0,D 0,D 0,D 0,D 0,D 0]) 0 kP E E E) underlying23 Ch E dQ (dx E) lQ Y (jO (enc:=Ac.cells) (by rw[Ku,gP]) E) ?_;intro A16 c17 Pq axz axA xg;refine zN 6 ?_;refine vv (v:=D ((k+1:Nat):Int)) jW ?_;refine zN 2 ?_;have l6:=xg.bq [0];refine dL (k+1,nb+1,A16,c17) ?_ lU (by first|omega|(dsimp only;omega));exact⟨uQ,uQ,l6⟩
 refine zN 16 ?_;obtain rfl:k=5:=Y;refine iO (X:=Nat×Nat×(Option Addr)×Nat) (λI=>[(1,D (r:Int)),(4,.slice none 0 0),(5,.slice I.2.2.1 I.2.1 I.2.2.2),(7,D (I.1:Int))]) (λI wr=>(I.1<=r)/\(I.2.1=l.length+5+6*I.1)/\St w.heap.size w wr [.own 51 11 (.slice I.2.2.1 I.2.1 I.2.2.2) I.2.1 ((l++starts 5++Am I.1).flatMap Ac.cells),.rd 11 A l.length ((l).flatMap Ac.cells)]) (λI=>r-I.1) (0,nb,Ab,cb) ?_ ?_ ?_
 ·exact⟨aG _,by dsimp only;omega,by dsimp only;rw[show l++starts 5++Am 0=l++starts 5 from bI _];exact S9⟩
 ·exact lU
 rintro⟨i,nb,Ab,cb⟩ Ma ⟨aFU,aFV,J⟩
 try dsimp only at aFU aFV J
 refine cB (l':=[(1,D (r:Int)),(4,.slice none 0 0),(5,.slice Ab nb cb),(7,D (i:Int))]) lU (bH (bH (aL (vm ?_))));refine zQ ?_;by_cases h27:(i:Int)< (r:Int)
 ·refine zN 15 ?_;refine iO (X:=Nat×Nat×(Option Addr)×Nat) (λI=>[(1,D (r:Int)),(4,.slice none 0 0),(7,D (i:Int)),(5,.slice I.2.2.1 I.2.1 I.2.2.2),(8,D (I.1:Int))]) (λI wr=>(I.1<=5)/\(I.2.1=l.length+5+6*i+I.1)/\St w.heap.size w wr [.own 51 11 (.slice I.2.2.1 I.2.1 I.2.2.2) I.2.1 ((l++starts 5++Am i++steps I.1).flatMap Ac.cells),.rd 11 A l.length ((l).flatMap Ac.cells)]) (λI=>5-I.1) (0,nb,Ab,cb) ?_ ?_ ?_
  ·exact⟨aG _,by dsimp only;omega,by dsimp only;rw[show l++starts 5++Am i++steps 0=l++starts 5++Am i from bI _];exact J⟩
  ·exact CO
  rintro⟨j,nb,Ab,cb⟩ YQ ⟨aFW,afC,M⟩
  try dsimp only at aFW afC M
  refine cB (l':=[(1,D (r:Int)),(4,.slice none 0 0),(7,D (i:Int)),(5,.slice Ab nb cb),(8,D (j:Int))]) CO (bH (bH (aL (vm ?_))));by_cases h32:(j:Int)<5
  ·refine zN 11 ?_;refine vv (v:=.agg #[D 3,D (j:Int),D 0,D 0,D 0,D 0,D 0,D 0,D 0,D 0,D 0]) iJ ?_;refine Uc M ?_;intro b33 w34 CV;refine eG (news:=[D 3,D (j:Int),D 0,D 0,D 0,D 0,D 0,D 0,D 0,D 0,D 0]) (xs':=(l++starts 5++Am i++steps (j+1)).flatMap Ac.cells) 1 CV (wn E) E E E E E E (St.nP (xs:=[D 3,D (j:Int),D 0,D 0,D 0,D 0,D 0,D 0,D 0,D 0,D 0]) 0 CV E E E) underlying23 Ch E dQ (dx E) lQ Y (jO (enc:=Ac.cells) (by rw[Og,gP]) E) ?_;intro A36 c37 w38 axB axC Co;refine zN 6 ?_;refine vv (v:=D ((j+1:Nat):Int)) jW ?_;refine zN 2 ?_;have Ee:=Co.bq [0];refine dL (j+1,nb+1,A36,c37) ?_ CO (by first|omega|(dsimp only;omega));exact⟨uQ,uQ,Ee⟩
  refine zN 9 ?_;obtain rfl:j=5:=Y;refine zN 2 ?_;refine vv (v:=.agg #[D 7,D 0,D 0,D 0,D 0,D 0,D 0,D 0,D 0,D 0,D 0]) iJ ?_;refine Uc M ?_;intro b43 Un tC;refine eG (news:=[D 7,D 0,D 0,D 0,D 0,D 0,D 0,D 0,D 0,D 0,D 0]) (xs':=(l++starts 5++Am (i+1)).flatMap Ac.cells) 1 tC (wn E) E E E E E E (St.nP (xs:=[D 7,D 0,D 0,D 0,D 0,D 0,D 0,D 0,D 0,D 0,D 0]) 0 tC E E E) underlying23 Ch E dQ (dx E) lQ Y (jO (enc:=Ac.cells) (x:=PG 7 0) (by rw[Et];simp only[append_assoc]) E) ?_;intro A46 c47 YR aOX aOY yM;refine zN 6 ?_;refine vv (v:=D ((i+1:Nat):Int)) jW ?_;refine zN 2 ?_;have qO:=yM.bq [0];refine dL (i+1,nb+1,A46,c47) ?_ lU (by first|omega|(dsimp only;omega));exact⟨uQ,uQ,qO⟩
 refine zN 17 ?_;have CP:=J.bq [1];obtain rfl:i=r:=Y;rw[Hz,show l.length+5+6*i=nb by omega];exact⟨Ab,cb,E,CP⟩
def pq(q:Nat):Option dh->Option dh
 |none=>none
 |some p=>if p.q=q then some p else none
def Mq(m:Cl)(q:Nat):List l9:=m.bG.filter λs=>decide (s.q=q)
def PI(m:Cl)(q:Nat)(l:bO):Prop:=l.q=q/\(l∈m.OM\/ ∃n,n<5/\l∈(m.aj n).Mv)
noncomputable def vw(m:Cl)(q:Nat)(n:Nat):bC:=(m.aj n).view q
def Cc(m:Cl)(q:Nat)(n:Nat):Option dh:=pq q (m.aj n).OO
def PK(m:Cl)(n:Nat):Bool:=(m.aj n).up
def Mr(m:Cl)(q:Nat)(n:Nat):Int×Int:=m.PU n q
def QI(m:Cl)(q:Nat)(g:Gh):Prop:=TU g (vw m q) (Cc m q) (PK m) (PI m q) (m.off.at q) (Mr m q) (Mq m q)
structure sD (g g':Gh):Prop where
 m:g'.m=g.m
 own:g'.own=g.own
 len:g'.len=g.len
 G:g'.G=g.G
def sD.refl(g:Gh):sD g g:=⟨E,E,E,E⟩
def sD.trans{a b c:Gh}(h:sD a b)(I:sD b c):sD a c:=⟨I.m.trans h.m,I.own.trans h.own,I.len.trans h.len,I.G.trans h.G⟩
def au2(g:Gh):sD g g.all:=⟨E,E,E,E⟩
def sD.o{g g':Gh}(h:sD g g'):g'.o=g.o:=by unfold Gh.o;rw[h.m,h.own]
def QI.mk'(I:TU g V P U Lt pl sh sv)(O:vw m q=V)(Z:Cc m q=P)(hU:PK m=U)(hL:∀l,PI m q l->Lt l\/ER g V pl l)(h:m.off.at q=pl)(J:Mr m q=sh)(M:Mq m q=sv):QI m q g:=by
 unfold QI;rw[O,Z,hU,h,J,M];exact I.En hL
def wR(h:m'.aj=PN m.aj n X):vw m' q=PN (vw m q) n (X.view q):=by
 funext j
 unfold vw;rw[h];unfold PN
 split<;>rfl
def yE(h:m'.aj=PN m.aj n X):Cc m' q=PN (Cc m q) n (pq q X.OO):=by
 funext j
 unfold Cc;rw[h];unfold PN
 split<;>rfl
def au3(h:m'.aj=PN m.aj n X):PK m'=PN (PK m) n X.up:=by
 funext j
 unfold PK;rw[h];unfold PN
 split<;>rfl
def oU(h:m'.aj=PN m.aj n X)(hv:X.view q=(m.aj n).view q):vw m' q=vw m q:=by rw[wR h];exact aJ hv.symm
def zy(h:m'.aj=PN m.aj n X)(hv:pq q X.OO=pq q (m.aj n).OO):Cc m' q=Cc m q:=by rw[yE h];exact aJ hv.symm
def pY(h:m'.aj=PN m.aj n X)(hv:X.up=(m.aj n).up):PK m'=PK m:=by rw[au3 h];exact aJ hv.symm
def Y2{q':Nat}{p:Int×Int}{s:Nat->Nat->Int×Int}(h:q'≠q):(λk=>kM s n q' p k q)=λk=>s k q:=by
 funext k
 unfold kM;rw[ah (λe=>h e.2.symm)]
def Y3{p:Int×Int}{s:Nat->Nat->Int×Int}:(λk=>kM s n q p k q)=PN (λk=>s k q) n p:=by
 funext k
 unfold kM PN;by_cases e:k=n
 ·rw[au ⟨e,E⟩,au e]
 rw[ah (λh=>e h.1),ah e]
def DT{sv:List l9}{s:l9}:(sv++[s]).filter (λs=>decide (s.q=q))=sv.filter (λs=>decide (s.q=q))++if s.q=q then[s]else[]:=by
 rw[filter_append]
 congr 1
 by_cases e:s.q=q
 ·rw[au e];simp[e]
 rw[ah e];simp[e]
def pF(h:l.kd=0\/l.kd=1\/l.kd=3):ER g V pl l:=⟨λe=>by omega,λe=>by omega,λe=>by omega,λe=>by omega⟩
def M5{x:bO}(hn:m'.aj=PN m.aj n X)(hi:∀l∈X.Mv,l∈(m.aj n).Mv)(J:n<5)(M:m'.OM=m.OM++[x]){R:bO->Prop}(O:x.q=q->R x):∀l,PI m' q l->PI m q l\/R l:=λl Z=>by
 obtain⟨h1,h⟩:=Z
 rcases h with h|⟨j,I,h⟩
 ·rw[M]at h
  rcases aP.1 h with h|h
  ·exact .inl ⟨h1,.inl h⟩
  rw[aF]at h;subst h;exact .inr (O h1)
 rw[hn]at h;by_cases e:j=n
 ·subst e;rw[Jo]at h;exact .inl ⟨h1,.inr ⟨j,I,hi l h⟩⟩
 rw[Ox e]at h;exact .inl ⟨h1,.inr ⟨j,I,h⟩⟩
def HY(hn:m'.aj=PN m.aj n X)(hi:∀l∈X.Mv,l∈(m.aj n).Mv)(J:n<5)(M:m'.OM=m.OM){R:bO->Prop}:∀l,PI m' q l->PI m q l\/R l:=λl O=>by
 obtain⟨h1,h⟩:=O
 rcases h with h|⟨j,I,h⟩
 ·rw[M]at h;exact .inl ⟨h1,.inl h⟩
 rw[hn]at h;by_cases e:j=n
 ·subst e;rw[Jo]at h;exact .inl ⟨h1,.inr ⟨j,I,hi l h⟩⟩
 rw[Ox e]at h;exact .inl ⟨h1,.inr ⟨j,I,h⟩⟩
def H6:m.aj=PN m.aj n (m.aj n):=(aJ E).symm
def QI.far(I:QI m q g)(Z:n<5)(hn:m'.aj=PN m.aj n X)(hv:X.view q=(m.aj n).view q)(hp:pq q X.OO=pq q (m.aj n).OO)(hu:X.up=(m.aj n).up)(hi:∀l∈X.Mv,l∈(m.aj n).Mv)(hf:∀l∈m'.OM,l∈m.OM\/(l.q=q->ER g (vw m q) (m.off.at q) l))
  (ho:m'.off.at q=m.off.at q) (hs:Mr m' q=Mr m q) (J:Mq m' q=Mq m q):QI m' q g:=
 QI.mk' I (oU hn hv) (zy hn hp) (pY hn hu) (λl hl=>by
  obtain⟨h1,h⟩:=hl
  rcases h with h|⟨j,O,h⟩
  ·rcases hf l h with M|M
   ·exact .inl ⟨h1,.inl M⟩
   exact .inr (M h1)
  rw[hn]at h;by_cases e:j=n
  ·subst e;rw[Jo]at h;exact .inl ⟨h1,.inr ⟨j,O,hi l h⟩⟩
  rw[Ox e]at h;exact .inl ⟨h1,.inr ⟨j,O,h⟩⟩) ho hs J
def TU.U3(I:TU g V P U Lt pl sh sv)(J:U g.o=true):g.t=g.m/\g.F=g.G.length/\rp gu sv=some (aM g.G).1:=by
 have M:=I.upF J;refine⟨?_,M,?_⟩
 ·rcases I.UK with h|⟨_,_,h,_⟩
  ·exact h.1
  rw[J]at h;cases h
 have:=I.rps;rwa [M,jM]at this
def TU.oEp(I:TU g V P U Lt pl sh sv)(hn:n<5)(h:(V n).F9=1\/(V n).F9=2):n=g.o:=I.who hn h
def Eu{L:List Ev}{K at_:Nat}(h:at_<=K)(I:K<=L.length):((L.take K).drop at_).take 3=(L.drop at_).take (((L.take K).drop at_).take 3).length/\at_+(((L.take K).drop at_).take 3).length<=K:=by
 have e:(((L.take K).drop at_).take 3).length=min 3 (K-at_):=by
  rw[eD,dO,eD];omega
 refine⟨?_,by rw[e];omega⟩;rw[e,Aw,yh]
def ajK{b:bC}{at_:Int}(I:TU g V P U Lt pl sh sv)(hn:n<5)(J:V n=b)(h:¬(jq b at_).2.2≠0):ER g V pl (IV n q b at_):=by
 obtain⟨h1,h2,h3,h4⟩:=Rt h;have M:(IV n q b at_).kd=4:=rfl;refine⟨λe=>by rw[M]at e;omega,λ_=>?_,λe=>by rw[M]at e;omega,λe=>by rw[M]at e;omega⟩
 show ∃k:Nat,b.ep+1=(k:Int)+1/\1<=k/\k<=g.m/\(n:Int)=g.own k/\0<=at_/\(jq b at_).1=(g.G.drop at_.toNat).take (jq b at_).1.length/\at_.toNat+(jq b at_).1.length<=g.bd k/\((jq b at_).2.1=true->_)
 rw[h4];dsimp only;by_cases e:n=g.o
 ·subst e;have iD:b.ep=g.m:=by rw[<-J];exact I.vV
  have O:b.Jp=g.G:=by rw[<-J];exact I.yN
  rw[O]at h3⊢;obtain⟨Z,d2⟩:=Eu (L:=g.G) (K:=g.G.length) (at_:=at_.toNat) Y aB;rw[jM]at Z d2;refine⟨g.m,by rw[iD],I.m1,aB,E,h2,Z,by unfold Gh.bd;rw[au E];exact d2,λhl=>.inr ⟨E,?_⟩⟩;rw[acu]at hl;refine⟨by rw[J];exact hl.1,by rw[J];rfl,?_⟩
  show at_.toNat+(jq b at_).1.length=g.G.length
  rw[h4]
  show at_.toNat+((b.Jp.drop at_.toNat).take 3).length=g.G.length
  rw[O,eD,dO];omega
 rcases I.oM n hn e with⟨h5,_⟩|⟨k,k1,k2,k3,k4,k5,k6,k7⟩|⟨k,k1,_⟩
 ·rw[J]at h5;omega
 ·rw[J]at k1 k2 k6 k7;have hlt:=I.Pd k3 k4;rw[k6]at h3⊢;rw[eD]at h3;obtain⟨Z,d2⟩:=Eu (L:=g.G) (K:=g.len k) (at_:=at_.toNat) Y (Gs hlt);refine⟨k,by rw[k2],k3,Gs k4,by rw[k5],h2,Z,?_,λ_=>.inl ⟨k4,by rw[<-k7];rfl⟩⟩;unfold Gh.bd;rw[ah Y];exact d2
 rw[J]at k1;omega
def JQ{b:bC}{at_:Int}{fl:List bO}(I:TU g V P U Lt pl sh sv)(hn:n<5)(M:V n=b):∀l∈lI n q b at_ fl,l∈fl\/ER g V pl l:=λl J=>by
 unfold lI at J
 split at J
 ·exact .inl J
 rename_i h
 rcases aP.1 J with J|J
 ·exact .inl J
 rw[aF]at J;subst J;exact .inr (ajK I hn M h)
def Y4{b:bC}{p:dh}{bs:Nat->bC}(I:TU g V P U Lt pl sh sv)(hn:n<5)(J:V n=b)(O:bs q=b)(hL:ER g V pl l)(Bd:l.tg=n)(Z:p.q=q)(hlq:l.q=q)(hp:p.ok bs)(hS:Src b l p)(hf:ay (p.b bs)=0):Gq g V n p:=by
 cases p with
 |serve k Jp op num a=>
  have hk:k=q:=Z;subst hk;obtain⟨h1,M,h3,h4⟩:=hp;rw[O]at h1 M;obtain⟨s1,s2,s3,s4,s5,s6⟩:=hS;have ho:=I.oEp hn (by rw[J];exact h1);have hev:b.Jp=g.G:=by rw[<-J,ho];exact I.yN
  rw[hev]at M s4;exact⟨ho,by rw[J];exact h1,M,by rw[s2,s4],h4⟩
 |P8 k x=>
  have hk:k=q:=Z;subst hk;obtain⟨h1,e,f,rfl,M,_⟩:=hp;rw[O]at h1 M;obtain⟨s1,s2⟩:=hS;obtain⟨j,j1,j2,j3,j4⟩:=hL.1 s1;simp only[bC.mk.injEq,true_and,and_true]at s2;refine⟨j,?_,j2,j3,by rw[J];exact h1,by rw[J];omega⟩;rw[s2.1,s2.2,j1,j4]
 |T9 k x last=>
  have hk:k=q:=Z;subst hk;obtain⟨s1,s2,s3,s4,s5,s6,s7,s8,s9⟩:=hS;have hr:b.F9=4:=by have:=hp.1;rwa [O]at this
  have PX:n≠g.o:=λe=>by
   have:=I.ES;rw[<-e,J]at this;omega
  obtain⟨j,j1,j2,j3,j4,j5,j6,j7,j8⟩:=hL.2.1 s1
  rcases I.oM n hn PX with⟨h5,_⟩|⟨_,h5,_⟩|⟨k',k1,k2,k3,k4,k5,k6,k7,k8⟩
  ·rw[J]at h5;omega
  ·rw[J]at h5;omega
  rw[J]at k2 k5 k6 k7;have hkj:k'=j:=Y;subst hkj;have hbd:=I.ZA k3 k4;have e2:l.Jp.drop (b.Jp.length-l.at_.toNat)=(g.G.drop b.Jp.length).take (l.at_.toNat+l.Jp.length-b.Jp.length):=by
   have:=bP (List.drop (b.Jp.length-l.at_.toNat)) j6;rw[this,Aw,lW,show l.at_.toNat+(b.Jp.length-l.at_.toNat)=b.Jp.length by omega]
   congr 1
   omega
  have hE:Ll b l.at_ l.Jp=g.G.take (l.at_.toNat+l.Jp.length):=by
   unfold Ll;rw[e2];have e3:=bP (· ++(g.G.drop b.Jp.length).take (l.at_.toNat+l.Jp.length-b.Jp.length)) k6;rw[e3,<-take_add]
   congr 1
   omega
  have hx:∀(h:last=true),k'=g.m->l.at_.toNat+l.Jp.length=g.G.length->x=⟨1,(g.m:Int)+1,0,0,0,g.G++[bg]⟩:=λh h1 M=>by
   rw[s9];unfold za;rw[au (by rw[<-s8];exact h),hE,M,jM,k2,h1]
  refine⟨by rw[J];exact hr,λhl=>⟨l.at_.toNat+l.Jp.length,?_,by rw[J];exact s7,λk2' hk2=>?_⟩,λhl=>?_⟩
  ·rw[s9,J];unfold za;rw[ah (by rw[<-s8,hl];simp),hE]
  ·rw[J]at hk2;have:k2'=k':=Y;subst this;exact j7
  rcases j8 (by rw[<-s8];exact hl)with⟨a1,a2⟩|⟨a1,a2,a3,a4⟩
  ·exact av Y (k8 a1)
  have hx':=hx hl a1 a4;have hf':ay x=0:=hf;rw[hx']at hf';exact⟨by rw[J,k2,a1],a2,a3.trans Bd,hx',(gG hf').2⟩
 |gy k x a=>
  obtain⟨h1,M⟩:=hp;have hk:k=q:=Z;subst hk;rw[O]at h1 M;exact⟨I.oEp hn (by rw[J];exact .inr h1),by rw[J];exact h1,by rw[J];exact M⟩
 |P5 k x=>
  obtain⟨h1,M⟩:=hp;have hk:k=q:=Z;subst hk;rw[O]at h1 M;obtain⟨s1,s2⟩:=hS;obtain⟨j,j1,j2,j3,j4⟩:=hL.2.2.2 s1;obtain⟨d,d1,d2,d3⟩:=I.dir;rw[d1]at j3;dsimp only at j3;exact⟨by rw[J];exact h1,by rw[J];exact M,by rw[J];omega⟩
def acG:∀ {k:Nat} {l:List Ev},l.length=k->Ua l->(aM l).1.Uy=0
 | 0,l,I,h=>by
  rw[pW.1 I];rw[AQ (l:=[]) iQ (show jo gu [] []=some (gu,[])from E)];exact aeX
 |k+1,l,I,h=>by
  have J:l=l.take k++[l[k]]:=by rw[<-uF Y,<-I,jM]
  have M:Ua (l.take k++[l[k]]):=J▸h;obtain⟨h1,_,O⟩:=UF M;rw[J,O];exact auz h1
def aoh{Q:Qd}{e:Ev}(h:Q.Uy=0)(he:bK e=0):(jU Q e).2.2.2=0:=by rw[BO h he]
def iC(h:(m.aj n).up=true):vw m q n=(m.aj n).bs q:=by unfold vw;rw[fZ h]
def ajL(h:(m.aj n).OO=none):Cc m q n=none:=by unfold Cc;rw[h];rfl
def ajM{a:kE}(I:QI m q g)(hn:n<5)(hu:(m.aj n).up=true)(h2:(iK ((m.aj n).bs l.q) l.op).2.2.1=false/\a=(iK ((m.aj n).bs l.q) l.op).2.1)(he:bK l.op=0/\l.op.kind≠4)(hb:ay ((m.aj n).bs l.q)=0)
  (hG:g.G.length<1999):∃g',QI (m.done n l.q l.op l.num a) q g'/\sD g g':=by
 obtain⟨h2,h3⟩:=h2;by_cases hs:Qc ((m.aj n).bs l.q)
 ·rw[Hu E E hs];by_cases hq:l.q=q
  ·subst hq;have hV:=iC (q:=l.q) hu;have ho:=I.oEp hn (by rw[hV];exact hs);have iD:((m.aj n).bs l.q).ep=g.m:=by rw[<-hV,ho];exact I.vV
   have M:((m.aj n).bs l.q).Jp=g.G:=by rw[<-hV,ho];exact I.yN
   obtain⟨t1,t2,t3⟩:=I.U3 (by rw[<-ho];exact hu);have hs':=hs;unfold Qc at hs';have Z:iK ((m.aj n).bs l.q) l.op=((m.aj n).bs l.q,(jU (aM ((m.aj n).bs l.q).Jp).1 l.op).2.1,false,0)/\(jU (aM ((m.aj n).bs l.q).Jp).1 l.op).2.2.1=false:=by
    have hl:¬ 1999<=((m.aj n).bs l.q).Jp.length:=by rw[M];omega
    unfold iK at h2⊢;rw[ah (λe=>e hb),ah (λe=>e he.1),ah he.2,ah Y,ah Y]at h2⊢;by_cases c:(jU (aM ((m.aj n).bs l.q).Jp).1 l.op).2.2.1=false
    ·rw[au c];exact⟨E,c⟩
    rw[ah c,ah hl]at h2;cases h2
   rw[Z.1,M]at h3;rw[M]at Z;have hgq:(aM g.G).1.Uy=0:=acG E I.gd;have hc:(jU (aM g.G).1 l.op).2.2.2=0:=aoh hgq he.1;have hr:rp gu (Mq m l.q++[⟨n,l.q,g.m,l.op,a,l.num⟩])=some (aM g.G).1:=by
    rw[Tj t3 hc h3.symm,anZ hc Z.2]
   refine⟨g.all,QI.mk' (I.told t1 hr λs hs=>by rw[aF]at hs;subst hs;exact⟨E,ho⟩) E E E ?_ E ?_ ?_,au2 g⟩
   ·rintro x ⟨x1,O|O⟩
    ·rcases aP.1 O with O|O
     ·exact .inl ⟨x1,.inl O⟩
     rw[aF]at O;subst O;exact .inr (pF (.inr (.inl E)))
    exact .inl ⟨x1,.inr O⟩
   ·show(λk=>kM m.PU n l.q _ k l.q)=_
    rw[Y3,iD,M,ho];rfl
   show(m.bG++_).filter _=_
   rw[DT,au E,iD];rfl
  refine⟨g,I.far (n:=n) (X:=m.aj n) hn H6 E E E (λ_ h=>h) (λx J=>?_) E (Y2 hq) ?_,.refl g⟩
  ·rcases aP.1 J with J|J
   ·exact .inl J
   rw[aF]at J;subst J;exact .inr λ_=>pF (.inr (.inl E))
  show(m.bG++_).filter _=_
  rw[DT,ah hq,bI];rfl
 rw[Lj E E hs];refine⟨g,I.far (n:=n) (X:=m.aj n) hn H6 E E E (λ_ h=>h) (λx J=>?_) E E E,.refl g⟩
 rcases aP.1 J with J|J
 ·exact .inl J
 rw[aF]at J;subst J;exact .inr λ_=>pF (.inr (.inl E))
def Pj{p:dh}(h:p.q=q):pq q (some p)=some p:=au h
def ap1{p:dh}(h:p.q≠q):pq q (some p)=none:=ah h
def acH(I:QI m q g)(hn:n<5)(hu:(m.aj n).up=true)(hU:pG (m.aj n) rs [])(hp:(m.aj n).OO=none)(hL:l.q=q->ER g (vw m q) (m.off.at q) l)(Bd:l.tg=n)(hk:l.kd=0->bK l.op=0/\l.op.kind≠4)(hlq:l.q<4)
  (hroom:(m.aj n).data.length+46<=100000) (hG:g.G.length<1999) (H:Hnd m n l m'):∃g',QI m' q g'/\sD g g'/\((vw m q g.o).F9=3->(vw m' q g.o).F9=3):=by
 have hbq:=hU.mG _ hlq
 cases H with
 |same=>exact⟨g,I,.refl g,id⟩
 |done a h1 h2=>
  have hvw:vw (m.done n l.q l.op l.num a) q=vw m q:=oU (n:=n) (X:=m.aj n) (by rw[(uI (m:=m)).2.1];exact H6) E
  rcases h2 with h2|⟨h2,h3,h4,h5,h6⟩
  ·obtain⟨g',h7,h8⟩:=ajM I hn hu h2 (hk h1) hbq hG;exact⟨g',h7,h8,by rw[hvw];exact id⟩
  exfalso
  have hs:=fI hbq;unfold bL at hs;unfold Qc at h3;have hr:aO (gZ 2 l.q ((m.aj n).bs l.q).ep 0 l.op)=0:=rV Y hlq Y Y (by simpa[mQ]using h4);have hsy:=hU.OY;have hd:=bP length hU.data;rw[bI]at hd;rw[BI (λr hr'=>by rw[aF]at hr';subst hr';exact hr) Y Y (by simpa using hroom)]at h5
  cases h5
 |TV h1=>
  refine⟨g,I.far (n:=n) (X:=m.aj n) hn H6 E E E (λ_ h=>h) (λx O=>?_) E E E,.refl g,id⟩
  rcases aP.1 O with O|O
  ·exact .inl O
  rw[aF]at O;subst O;exact .inr λ_=>pF (.inr (.inr E))
 |part b h1 h2 h3 h4 h5 h6=>
  obtain⟨g1,g2,g3⟩:=oP (m:=m.aC n l.q b) (n:=n) (q:=l.q) (a:=l.at_);have e:(m.aC n l.q b).aj n=(m.aj n).aC l.q b:=aY _;rw[e,show((m.aj n).aC l.q b).bs l.q=b from Jo _ _ _]at g3;have J:((m.aC n l.q b).part n l.q l.at_).aj=PN m.aj n ((m.aj n).aC l.q b):=g2;have hoff:((m.aC n l.q b).part n l.q l.at_).off.at q=m.off.at q:=by rw[g1.off];rfl
  have Z:Mr ((m.aC n l.q b).part n l.q l.at_) q=Mr m q/\Mq ((m.aC n l.q b).part n l.q l.at_) q=Mq m q:=by
   unfold Cl.part
   split<;>exact⟨E,E⟩
  by_cases hq:l.q=q
  ·subst hq;have hV:=iC (q:=l.q) hu;have M:((m.aj n).aC l.q b).view l.q=b:=by rw[fZ (X:=(m.aj n).aC l.q b) hu];exact Jo _ _ _
   have hvw:vw ((m.aC n l.q b).part n l.q l.at_) l.q=PN (vw m l.q) n b:=by rw[wR J,M]
   rcases h4 with⟨h4,h7,h8⟩|⟨h4,h7⟩
   ·have ho:=I.oEp hn (by rw[hV];exact .inr h4);have ZI:=I.UJ (by rw[<-ho,hV];omega);have I2:TU g (PN (vw m l.q) g.o b) (Cc m l.q) (PK m) (PI m l.q) (m.off.at l.q) (Mr m l.q) (Mq m l.q):=by
     refine TU.ae6 I (λp hp'=>?_) ?_ ?_ ?_ ?_ ?_ ?_
     ·rw[<-ho,ajL hp]at hp';cases hp'
     ·rw[h7];show((m.aj n).bs l.q).ep=_;rw[<-hV,ho];exact I.vV
     ·rw[h7];show((m.aj n).bs l.q).Jp=_;rw[<-hV,ho];exact I.yN
     ·rw[h7];exact .inr (.inl h4)
     ·intro _;rw[h7,<-ho];rw[<-ho,hV]at ZI;exact ZI
     ·intro h;rw[<-ho,hV]at h;omega
     intro h;rw[h7]at h;exact av (h4.symm.trans h) dQ
    rw[<-ho]at I2;refine⟨g,QI.mk' I2 hvw (zy J E) (pY J E) (λx O=>?_) hoff Z.1 Z.2,.refl g,λh=>?_⟩
    ·obtain⟨x1,x2⟩:=O
     rcases x2 with x2|⟨j,hj,x2⟩
     ·rw[g3]at x2
      rcases JQ I2 hn (Jo _ _ _) x x2 with x3|x3
      ·exact .inl ⟨x1,.inl x3⟩
      exact .inr x3
     rw[J]at x2;by_cases e:j=n
     ·subst e;rw[Jo]at x2;exact .inl ⟨x1,.inr ⟨j,hj,x2⟩⟩
     rw[Ox e]at x2;exact .inl ⟨x1,.inr ⟨j,hj,x2⟩⟩
    rw[<-ho,hV]at h;omega
   have axS:vw ((m.aC n l.q b).part n l.q l.at_) l.q=vw m l.q:=by rw[hvw,h7,<-hV];exact aJ E
   refine⟨g,QI.mk' I axS (zy J E) (pY J E) (λx O=>?_) hoff Z.1 Z.2,.refl g,by rw[axS];exact id⟩;obtain⟨x1,x2⟩:=O
   rcases x2 with x2|⟨j,hj,x2⟩
   ·rw[g3]at x2
    rcases JQ I hn (hV.trans h7.symm) x x2 with x3|x3
    ·exact .inl ⟨x1,.inl x3⟩
    exact .inr x3
   rw[J]at x2;by_cases e:j=n
   ·subst e;rw[Jo]at x2;exact .inl ⟨x1,.inr ⟨j,hj,x2⟩⟩
   rw[Ox e]at x2;exact .inl ⟨x1,.inr ⟨j,hj,x2⟩⟩
  have M:((m.aj n).aC l.q b).view q=(m.aj n).view q:=by
   rw[fZ (X:=(m.aj n).aC l.q b) hu,fZ hu];exact Ox (λe=>hq e.symm)
  refine⟨g,I.far hn J M E E (λ_ h=>h) (λx O=>?_) hoff Z.1 Z.2,.refl g,by rw[oU J M];exact id⟩;rw[g3]at O;unfold lI at O
  split at O
  ·exact .inl O
  rcases aP.1 O with O|O
  ·exact .inl O
  rw[aF]at O;subst O;exact .inr λh=>av h hq
 |OO p cO d h1 h2 h3 h4 h5=>
  have hY:cO.bs=(m.aj n).bs/\cO.up=(m.aj n).up/\cO.Mv=(m.aj n).Mv:=by rcases h1 with h1|⟨_,h1⟩<;>rw[h1]<;>exact⟨E,E,E⟩
  have M:∀q,({cO with data:=d,OO:=some p}:Nd).view q=(m.aj n).view q:=λq=>by
   rw[fZ (X:={cO with data:=d,OO:=some p}) (hY.2.1.trans hu),fZ hu];exact congrFun hY.1 q
  have J:(m.put n {cO with data:=d,OO:=some p}).aj=PN m.aj n {cO with data:=d,OO:=some p}:=rfl;have hvw:=oU (q:=q) J (M q);by_cases hq:l.q=q
  ·subst hq;have hfull:=(jL hU.tape hU.mG h3 (by rw[h2];exact hlq)).2;have afD:=Y4 I hn (iC (q:=l.q) hu) E (hL E) Bd h2 E h3 h5 hfull;refine⟨g,QI.mk' (I.axE (P':=PN (Cc m l.q) n (some p)) λk p' hk hp'=>?_) hvw (by rw[yE J];show PN _ n (pq l.q (some p))=_;rw[Pj h2]) (pY J hY.2.1) (HY J (λx O=>by rw[<-hY.2.2];exact O) hn E) E E E,.refl g,by rw[hvw];exact id⟩;by_cases e:k=n
   ·subst e;rw[Jo]at hp'
    cases hp';exact .inr ⟨hu,afD⟩
   rw[Ox e]at hp';exact .inl hp'
  refine⟨g,I.far hn J (M q) ?_ hY.2.1 (λx O=>by rw[<-hY.2.2];exact O) (λx O=>.inl O) E E E,.refl g,by rw[hvw];exact id⟩;rw[hp];exact ap1 (by rw[h2];exact hq)
 |Qf h1=>
  have J:(m.put n ((m.aj n).Qf n l)).aj=PN m.aj n ((m.aj n).Qf n l):=rfl;have M:((m.aj n).Qf n l).view q=(m.aj n).view q:=by rw[fZ (X:=(m.aj n).Qf n l) hu,fZ hu];rfl
  exact⟨g,I.far hn J M E E (λ_ h=>h) (λx O=>.inl O) E E E,.refl g,by rw[oU J M];exact id⟩
def ajN{V:Nat->bC}{P:Nat->Option dh}{U:Nat->Bool}{Lt:bO->Prop}{pl:Pl}{sh:Nat->Int×Int}{sv:List l9}{b:bC}{s:Bool}(I:TU g V P U Lt pl sh sv)(hn:n<5)(M:V n=b):∀l∈ig n q b s,ER g V pl l:=λl J=>by
 unfold ig at J
 rcases aP.1 J with J|J
 ·rcases aP.1 J with J|J
  ·split at J
   ·rename_i O
    rw[aF]at J;subst J;have h:(yC n q b).kd=2:=rfl;refine⟨λ_=>?_,λe=>by rw[h]at e;omega,λe=>by rw[h]at e;omega,λe=>by rw[h]at e;omega⟩
    show ∃k:Nat,b.ep+1=(k:Int)+1/\1<=k/\k<=g.m/\(n:Int)=g.own k
    by_cases e:n=g.o
    ·subst e;exact⟨g.m,by rw[<-M,I.vV],I.m1,aB,E⟩
    rcases I.oM n hn e with⟨h5,_⟩|⟨k,Z,k2,k3,k4,k5,_⟩|⟨k,Z,_⟩
    ·rw[M]at h5;omega
    ·rw[M]at k2;exact⟨k,by rw[k2],k3,Gs k4,by rw[k5]⟩
    rw[M]at Z;omega
   simp at J
  split at J
  ·rw[aF]at J;subst J;have h:(Rf n q).kd=5:=rfl;refine⟨λe=>by rw[h]at e;omega,λe=>by rw[h]at e;omega,λ_ e=>?_,λe=>by rw[h]at e;omega⟩;exact av e (by show ¬(0:Int)<= -1;decide)
  simp at J
 split at J
 ·rename_i O
  rw[aF]at J;subst J;have h:(Pb n q b).kd=5:=rfl;refine⟨λe=>by rw[h]at e;omega,λe=>by rw[h]at e;omega,λ_ _=>?_,λe=>by rw[h]at e;omega⟩;have ho:=I.oEp hn (by rw[M];exact .inl O.1);have iD:b.ep=g.m:=by rw[<-M,ho];exact I.vV
  show ∃k:Nat,b.ep-1=(k:Int)/\1<=k/\k<g.m/\((g.own (k+1):Nat):Int)=(n:Int)
  refine⟨g.m-1,by omega,by omega,by omega,?_⟩;rw[show g.m-1+1=g.m by have:=I.m1;omega];exact bP Int.ofNat ho.symm
 simp at J
def WH(I:QI m q g)(hn:n<5)(hu:(m.aj n).up=true):QI (m.lu n) q g/\vw (m.lu n) q=vw m q:=by
 have O:(m.lu n).aj=PN m.aj n {m.aj n with turn:=(m.aj n).turn+1}:=rfl;have M:({m.aj n with turn:=(m.aj n).turn+1}:Nd).view q=(m.aj n).view q:=rfl;refine⟨I.far hn O M E E (λ_ h=>h) (λx J=>?_) E E E,oU O M⟩
 rcases aP.1 J with J|J
 ·exact .inl J
 refine .inr λZ=>?_;have hxx:x.q=(m.aj n).turn % 4:=by
  unfold ig at J
  rcases aP.1 J with J|J
  ·rcases aP.1 J with J|J
   ·split at J
    ·rw[aF]at J;subst J;rfl
    simp at J
   split at J
   ·rw[aF]at J;subst J;rfl
   simp at J
  split at J
  ·rw[aF]at J;subst J;rfl
  simp at J
 rw[hxx]at Z;rw[Z]at J;exact ajN I hn (iC hu) x J
structure rE (g g':Gh):Prop where
 m:g.m<=g'.m
 own:∀k,k<=g.m->g'.own k=g.own k
 RF:g'.G.length<=g.G.length+1
def sD.next{g g':Gh}(h:sD g g'):rE g g':=⟨by rw[h.m];exact aB,λk _=>by rw[h.own],by rw[h.G];omega⟩
def rE.refl(g:Gh):rE g g:=(sD.refl g).next
def rE.same{g g' g2:Gh}(h:rE g g')(I:sD g' g2):rE g g2:=⟨by rw[I.m];exact h.m,λk J=>by rw[I.own];exact h.own k J,by rw[I.G];exact h.RF⟩
def U4(q:Nat)(g g':Gh)(m m':Cl):Prop:=g'.m=g.m->(vw m q g.o).F9=3->(vw m' q g.o).F9=3
def TU.ZJ(I:TU g V P U Lt pl sh sv)(n:Nat):TU g V (PN P n none) U Lt pl sh sv:=I.axE λk p _ h=>by
 by_cases e:k=n
 ·subst e;rw[Jo]at h;cases h
 rw[Ox e]at h;exact .inl h
def TU.rW(I:TU g V P U Lt pl sh sv)(h:(V n).F9=0\/(V n).F9=4):n≠g.o:=λe=>by
 have:=I.ES;rw[<-e]at this;omega
def TU.RG(I:TU g V P U Lt pl sh sv){k:Nat}(h1:1<=k)(J:k<=g.m)(M:(V n).ep< (k:Int)+1):Oth g n ⟨4,(k:Int)+1,g.own k,0,0,[]⟩:=by
 refine .inr (.inr ⟨k,E,E,h1,J,E,E,aG _,λh e=>?_⟩);have:=I.ge (k+1) Y h;rw[e]at this;omega
def TU.M6(I:TU g V P U Lt pl sh sv)(hn:n<5)(O:(V n).F9=4){j:Nat}(Z:∀k:Nat,(V n).ep=(k:Int)+1->j<=g.bd k):Oth g n {V n with Jp:=g.G.take j}:=by
 rcases I.oM n hn (I.rW (.inr O))with⟨h5,_⟩|⟨_,h5,_⟩|⟨k,k1,h,J,M,k5,k6,k7,k8⟩
 ·omega
 ·omega
 have h1:=Z k h;have h2:=I.ZA J M;have e:(g.G.take j).length=j:=by rw[eD];omega
 exact .inr (.inr ⟨k,k1,h,J,M,k5,by show g.G.take j=g.G.take (g.G.take j).length;rw[e],by show(g.G.take j).length<=_;rw[e];exact h1,k8⟩)
def TU.Oh(I:TU g V P U Lt pl sh sv)(hn:n<5)(O:(V n).F9=3)(h:(V n).ep<g.m):n≠g.o/\Oth g n ⟨0,(V n).ep,0,0,0,[]⟩:=by
 have J:n≠g.o:=λe=>by have:=I.vV;rw[<-e]at this;omega
 refine⟨J,?_⟩
 rcases I.oM n hn J with⟨M,_⟩|⟨k,Z,k2,k3,_⟩|⟨_,M,_⟩
 ·omega
 ·exact .inl ⟨E,by show 0<=(V n).ep;omega,h⟩
 omega
def TU.serve{op:Ev}{a:kE}{num:Int}{b:bC}{qq:Nat}(I:TU g V P U Lt pl sh sv)(ho:n=g.o)(O:U n=true)(hr:(V n).F9≠3)(Z:Ua (g.G++[op]))(ha:(jU (aM g.G).1 op).2.1=a)(hb:b.ep=(V n).ep)(h:b.F9=(V n).F9)(J:b.tg=(V n).tg)(M:b.Jp=g.G++[op]):
 TU (g.app op).all (PN V n b) (PN P n none) U Lt pl (PN sh n ((g.m:Int),((g.G++[op]).length:Int))) (sv++[⟨n,qq,g.m,op,a,num⟩]):=by
 subst ho;obtain⟨t1,t2,t3⟩:=I.U3 O;obtain⟨s1,s2,s3⟩:=UF Z;have I2:=(I.down g.o).append (e:=op) (b:=b) (Jo _ _ _) (Jo _ _ _) hr t1 Z hb h J M;have I3:=I2.told (sv2:=[⟨g.o,qq,g.m,op,a,num⟩]) t1 (by rw[Tj t3 s1 ha];show _=some (aM (g.G++[op])).1;rw[s3]) λs hs=>by rw[aF]at hs;subst hs;exact⟨E,E⟩
 have I4:=I3.up g.o λ_=>⟨E,E⟩;rw[DK,aJ O]at I4;exact I4
def TU.activated{qq:Nat}(I:TU g V P U Lt pl sh sv)(hu:U n=true)(hr:(V g.o).F9=3)(J:(V g.o).tg=n)(hg:Ua (g.G++[bg]))(M:(V n).ep<=(g.m:Int)+1):
 TU (g.Ub n).all (PN V n ⟨1,(g.m:Int)+1,0,0,0,g.G++[bg]⟩) (PN P n none) U Lt pl (PN sh n ((g.m:Int)+1,((g.G++[bg]).length:Int))) (sv++[⟨n,qq,(g.m:Int)+1,bg,iX,-1⟩]):=by
 have ht:¬(g.Ub n).t=(g.Ub n).m:=by
  show ¬g.t=g.m+1
  rcases I.UK with⟨h,_⟩|⟨h,_⟩<;>omega
 have Z:(g.Ub n).o=n:=Jo _ _ _;have I2:=(I.down n).activate (T:=n) hr J (Jo _ _ _) (Jo _ _ _) hg M;have I3:=I2.an0 ht (s:=⟨n,qq,(g.m:Int)+1,bg,iX,-1⟩) E E (by show(g.m:Int)+1=((g.m+1:Nat):Int);omega) Z.symm;have O:=I3.up n λ_=>⟨E,E⟩;rw[DK,aJ hu,Z]at O;have e:(((g.Ub n).m:Nat):Int)=(g.m:Int)+1:=by show((g.m+1:Nat):Int)=_;omega
 rw[e]at O;exact O
def ajO(g:Gh)(n:Nat):rE g (g.Ub n).all:=⟨by show g.m<=g.m+1;omega,λk h=>Ox Y,by show(g.G++[bg]).length<=_;simp⟩
def ajP(g:Gh)(e:Ev):rE g (g.app e).all:=⟨aB,λ_ _=>E,by show(g.G++[e]).length<=_;simp⟩
def WI{p:dh}(I:QI m q g)(hn:n<5)(O:m.aj n=X)(Z:X.up=true)(hp:X.OO=some p)(hpo:p.ok X.bs):∃g',QI (m.step n) q g'/\rE g g'/\U4 q g g' m (m.step n):=by
 have hu':(m.aj n).up=true:=by rw[O];exact Z
 by_cases hq:p.q=q
 ·have hpv:Cc m q n=some p:=by unfold Cc;rw[O,hp];exact Pj hq
  obtain⟨_,hk⟩:=I.nQ n hn p hpv;have hV:vw m q n=X.bs q:=by rw[iC hu',O]
  cases p with
  |serve k Jp op num a=>
   have e:k=q:=hq;subst e;obtain⟨k1,k2,k3,k4,k5⟩:=hk;have hr:(vw m k n).F9≠3:=by unfold Qc at k2;omega
   have iD:(X.bs k).ep=g.m:=by rw[<-hV,k1];exact I.vV
   rw[jS O Z hp E (by rw[hV]at k2;exact k2)];have I2:=I.serve (b:={X.bs k with Jp:=Jp}) (qq:=k) (num:=num) k1 hu' hr (by rw[<-k3];exact k5) k4 (by rw[hV]) (by rw[hV]) (by rw[hV]) k3;have J:({ (m.put n (X.kV.aC k {X.bs k with Jp:=Jp}))with bG:=m.bG++[⟨n,k,(X.bs k).ep,op,a,num⟩],PU:=kM m.PU n k ((X.bs k).ep,Jp.length),OM:=m.OM++[mg n num a nowhere]}:Cl).aj=PN m.aj n (X.kV.aC k {X.bs k with Jp:=Jp}):=rfl;have M:(X.kV.aC k {X.bs k with Jp:=Jp}).view k={X.bs k with Jp:=Jp}:=by rw[fZ (X:=X.kV.aC k _) Z];exact Jo _ _ _
   refine⟨_,QI.mk' I2 (by rw[wR J,M]) (by rw[yE J];rfl) (pY J (by rw[O];rfl)) ?_ E ?_ ?_,ajP g op,λ_ h=>av h (by rw[<-k1];exact hr)⟩
   ·exact M5 (x:=mg n num a nowhere) J (λx hx=>by rw[O];exact hx) hn E λ_=>pF (.inr (.inl E))
   ·show(λj=>kM m.PU n k _ j k)=_
    rw[Y3,iD,k3];rfl
   show(m.bG++_).filter _=_
   rw[DT,au E,iD];rfl
  |P8 k b=>
   have e:k=q:=hq;subst e;obtain⟨j,j1,j2,j3,j4,j5⟩:=hk;rw[ng O Z hp];have hne:=I.rW j4;have I2:=(I.ZJ n).Vw (b:=b) hn hne (Jo _ _ _) (by rw[j1];exact I.RG j2 j3 j5) (by rw[j1];show _<=(j:Int)+1;omega);have J:({ (m.put n (X.kV.aC k b))with OM:=m.OM++[ou n k b]}:Cl).aj=PN m.aj n (X.kV.aC k b):=rfl;have M:(X.kV.aC k b).view k=b:=by rw[fZ (X:=X.kV.aC k _) Z];exact Jo _ _ _
   have hvw:vw ({ (m.put n (X.kV.aC k b))with OM:=m.OM++[ou n k b]}:Cl) k=PN (vw m k) n b:=by rw[wR J,M]
   exact⟨g,QI.mk' I2 hvw (by rw[yE J];rfl) (pY J (by rw[O];rfl)) (M5 (x:=ou n k b) J (λx hx=>by rw[O];exact hx) hn E λ_=>pF (.inr (.inr E))) E E E,.refl g,λ_ h=>by rw[hvw,Ox (λe=>hne e.symm)];exact h⟩
  |T9 k b last=>
   have e:k=q:=hq;subst e;obtain⟨j1,j2,j3⟩:=hk;have hne:=I.rW (.inr j1)
   cases last with
   |true=>
    obtain⟨a1,a2,a3,a4,a5⟩:=j3 E;subst a4;rw[jP O Z hp];have I2:=I.activated (qq:=k) hu' a2 a3 a5 (by rw[a1];exact jg _);have J:({ (m.put n { (X.kV.aC k ⟨1,(g.m:Int)+1,0,0,0,g.G++[bg]⟩)with PZ:=PN X.PZ k false})with bG:=m.bG++[⟨n,k,(g.m:Int)+1,bg,iX,-1⟩],PU:=kM m.PU n k ((g.m:Int)+1,(g.G++[bg]).length)}:Cl).aj=PN m.aj n { (X.kV.aC k ⟨1,(g.m:Int)+1,0,0,0,g.G++[bg]⟩)with PZ:=PN X.PZ k false}:=rfl;have M:({ (X.kV.aC k ⟨1,(g.m:Int)+1,0,0,0,g.G++[bg]⟩)with PZ:=PN X.PZ k false}:Nd).view k=⟨1,(g.m:Int)+1,0,0,0,g.G++[bg]⟩:=by rw[fZ (X:={ (X.kV.aC k _)with PZ:=PN X.PZ k false}) Z];exact Jo _ _ _
    refine⟨_,QI.mk' I2 (by rw[wR J,M]) (by rw[yE J];rfl) (pY J (by rw[O];rfl)) (HY J (λx hx=>by rw[O];exact hx) hn E) E ?_ ?_,ajO g n,λh=>by
     have:g.m+1=g.m:=h;omega⟩
    ·show(λj=>kM m.PU n k _ j k)=_
     rw[Y3];rfl
    show(m.bG++_).filter _=_
    rw[DT,au E];rfl
   |false=>
    obtain⟨j,a1,a2,a3⟩:=j2 E;rw[qZ O Z hp];have I2:=(I.ZJ n).Vw (b:=b) hn hne (Jo _ _ _) (by rw[a1];exact I.M6 hn j1 a3) (by rw[a1];exact jg _);have J:({ (m.put n (X.kV.aC k b))with OM:=m.OM++[ou n k b]}:Cl).aj=PN m.aj n (X.kV.aC k b):=rfl;have M:(X.kV.aC k b).view k=b:=by rw[fZ (X:=X.kV.aC k _) Z];exact Jo _ _ _
    have hvw:vw ({ (m.put n (X.kV.aC k b))with OM:=m.OM++[ou n k b]}:Cl) k=PN (vw m k) n b:=by rw[wR J,M]
    exact⟨g,QI.mk' I2 hvw (by rw[yE J];rfl) (pY J (by rw[O];rfl)) (M5 (x:=ou n k b) J (λx hx=>by rw[O];exact hx) hn E λ_=>pF (.inr (.inr E))) E E E,.refl g,λ_ h=>by rw[hvw,Ox (λe=>hne e.symm)];exact h⟩
  |gy k b at_=>
   have e:k=q:=hq;subst e;obtain⟨ho,j1,j2⟩:=hk;rw[oO O Z hp];obtain⟨t1,t2,t3⟩:=I.U3 (by rw[<-ho];exact hu');have ZI:=I.UJ (by rw[<-ho];omega);have I2:TU g (PN (vw m k) g.o b) (PN (Cc m k) n none) (PK m) (PI m k) (m.off.at k) (Mr m k) (Mq m k):=by
    refine TU.ae6 (I.ZJ n) (λp' hp'=>?_) ?_ ?_ ?_ ?_ ?_ λ_=>t2
    ·rw[<-ho,Jo]at hp';cases hp'
    ·rw[j2,ho];exact I.vV
    ·rw[j2,ho];exact I.yN
    ·rw[j2];exact .inr (.inr E)
    ·intro _;rw[j2,ho];exact ZI
    intro h;rw[<-ho]at h;omega
   rw[<-ho]at I2;have J:({ (m.put n (X.kV.aC k b))with OM:=lI n k b at_ m.OM}:Cl).aj=PN m.aj n (X.kV.aC k b):=rfl;have M:(X.kV.aC k b).view k=b:=by rw[fZ (X:=X.kV.aC k _) Z];exact Jo _ _ _
   have hvw:vw ({ (m.put n (X.kV.aC k b))with OM:=lI n k b at_ m.OM}:Cl) k=PN (vw m k) n b:=by rw[wR J,M]
   refine⟨g,QI.mk' I2 hvw (by rw[yE J];rfl) (pY J (by rw[O];rfl)) (λx hx=>?_) E E E,.refl g,λ_ h=>by rw[hvw,<-ho,Jo,j2]⟩;obtain⟨x1,x2⟩:=hx
   rcases x2 with x2|⟨j,hj,x2⟩
   ·rcases JQ I2 hn (Jo _ _ _) x x2 with x3|x3
    ·exact .inl ⟨x1,.inl x3⟩
    exact .inr x3
   rw[J]at x2;by_cases e:j=n
   ·subst e;rw[Jo]at x2;exact .inl ⟨x1,.inr ⟨j,hj,by rw[O];exact x2⟩⟩
   rw[Ox e]at x2;exact .inl ⟨x1,.inr ⟨j,hj,x2⟩⟩
  |P5 k b=>
   have e:k=q:=hq;subst e;obtain⟨j1,j2,j3⟩:=hk;obtain⟨hne,hoth⟩:=I.Oh hn j1 j3;rw[lK O Z hp];have I2:=(I.ZJ n).Vw (b:=b) hn hne (Jo _ _ _) (by rw[j2];exact hoth) (by rw[j2];exact jg _);have J:(m.put n (X.kV.aC k b)).aj=PN m.aj n (X.kV.aC k b):=rfl;have M:(X.kV.aC k b).view k=b:=by rw[fZ (X:=X.kV.aC k _) Z];exact Jo _ _ _
   have hvw:vw (m.put n (X.kV.aC k b)) k=PN (vw m k) n b:=by rw[wR J,M]
   exact⟨g,QI.mk' I2 hvw (by rw[yE J];rfl) (pY J (by rw[O];rfl)) (HY J (λx hx=>by rw[O];exact hx) hn E) E E E,.refl g,λ_ h=>by rw[hvw,Ox (λe=>hne e.symm)];exact h⟩
 have far:∀ {m':Cl} {cO:Nd},m'.aj=PN m.aj n cO->cO.bs=PN X.bs p.q (p.b X.bs)->cO.up=true->cO.OO=none->cO.Mv=X.Mv->(∀l∈m'.OM,l∈m.OM\/(l.q=q->ER g (vw m q) (m.off.at q) l))->m'.off.at q=m.off.at q->Mr m' q=Mr m q->Mq m' q=Mq m q-> ∃g',QI m' q g'/\rE g g'/\U4 q g g' m m':=by
  intro m' cO h1 h2 h3 h4 h5 h6 h7 h8 h9;have M:cO.view q=(m.aj n).view q:=by rw[fZ h3,fZ hu',h2,O];exact Ox (λe=>hq e.symm)
  refine⟨g,I.far hn h1 M ?_ (by rw[hu'];exact h3) (λx hx=>by rw[O,<-h5];exact hx) h6 h7 h8 h9,.refl g,λ_ h=>by rw[oU h1 M];exact h⟩;rw[h4,O,hp];exact(ap1 hq).symm
 have snoc:∀ {x:bO} {fl:List bO},(x.q=q->ER g (vw m q) (m.off.at q) x)-> ∀l∈fl++[x],l∈fl\/(l.q=q->ER g (vw m q) (m.off.at q) l):=λ{x fl} hx l hl=>by
  rcases aP.1 hl with hl|hl
  ·exact .inl hl
  rw[aF]at hl;subst hl;exact .inr hx
 cases p with
 |serve k Jp op num a=>
  rw[jS O Z hp E hpo.1];refine far (cO:=X.kV.aC k {X.bs k with Jp:=Jp}) E E Z E E (snoc λ_=>pF (.inr (.inl E))) E (Y2 hq) ?_
  show(m.bG++_).filter _=_
  rw[DT,ah (show ¬k=q from hq),bI];rfl
 |P8 k b=>
  rw[ng O Z hp];exact far (cO:=X.kV.aC k b) E E Z E E (snoc λ_=>pF (.inr (.inr E))) E E E
 |T9 k b last=>
  cases last with
  |true=>
   rw[jP O Z hp];refine far (cO:={ (X.kV.aC k b)with PZ:=PN X.PZ k false}) E E Z E E (λl hl=>.inl hl) E (Y2 hq) ?_
   show(m.bG++_).filter _=_
   rw[DT,ah (show ¬k=q from hq),bI];rfl
  |false=>
   rw[qZ O Z hp];exact far (cO:=X.kV.aC k b) E E Z E E (snoc λ_=>pF (.inr (.inr E))) E E E
 |gy k b at_=>
  rw[oO O Z hp];refine far (cO:=X.kV.aC k b) E E Z E E (λl hl=>?_) E E E;unfold lI at hl;dsimp only at hl
  split at hl
  ·exact .inl hl
  exact snoc (λh=>av h hq) l hl
 |P5 k b=>
  rw[lK O Z hp];exact far (cO:=X.kV.aC k b) E E Z E E (λl hl=>.inl hl) E E E
def H7:∀(rs:List dN),(dz rs).length<=46*rs.length
 |[]=>by simp[dz]
 |r::rs=>by
  have h1:=(CY r).2;have h:=H7 rs;have e:dz (r::rs)=oI r++dz rs:=by simp[dz,flatMap_cons]
  rw[e,aZ,mV];omega
def acI{bs:Nat->bC}{p:dh}(h:p.q=l.q)(I:p.ok bs)(J:Src (bs l.q) l p)(hl:l.Jp.length<=3):(p.rs bs).length<=4:=by
 cases p with
 |serve k Jp op num a=>exact fV E
 |P8 k b=>exact fV E
 |gy k b a=>exact fV E
 |P5 k b=>exact fV E
 |T9 k b last=>
  have e:k=l.q:=h;subst e;obtain⟨es,g1,g2,g3,g4,g5,g6,M⟩:=xG I;obtain⟨s1,s2,s3,O,Z,s6,s7,s8,s9⟩:=J;have hil:=Wz O Z s7;have hbl:b.Jp.length=l.at_.toNat+l.Jp.length+if last=true then 1 else 0:=by
   rw[s9];unfold za;rw[<-s8]
   cases last with
   |true=>simp only[if_true,length_append,length_singleton];omega
   |false=>simp only[Bool.false_eq_true,if_false];omega
  rw[M,aZ,iE,dO]
  cases last with
  |true=>simp only[if_true,length_singleton]at*;omega
  |false=>simp only[Bool.false_eq_true,if_false,length_nil]at*;omega
def aoi(O:l.Jp.length<=3)(H:Hnd m n l m'):(m'.aj n).data.length<=(m.aj n).data.length+184:=by
 cases H with
 |same=>omega
 |done a h1 h=>rw[(uI (m:=m)).2.1];omega
 |TV h1=>exact oK _ _
 |part b h1 h I J M Z=>
  rw[(oP (m:=m.aC n l.q b)).2.1,show(m.aC n l.q b).aj n=(m.aj n).aC l.q b from aY _];exact oK _ _
 |OO p cO d h1 h I J M=>
  rw[aY]
  show d.length<=_
  obtain⟨w1,_,_⟩:=vk J;have Z:=acI h I M O;have h7:=H7 (p.rs (m.aj n).bs);rw[w1,aZ];omega
 |Qf h1=>rw[aY];exact oK _ _
def WJ{T S eZ K:Nat}(I:QI m q g)(hB:dW m T S eZ K)(hn:n<5)(Z:(m.aj n).data.length+46<=100000)(hG:g.G.length<1999):(∃g',QI (m.step n) q g'/\rE g g'/\U4 q g g' m (m.step n))/\((m.step n).aj n).data.length<=(m.aj n).data.length+184:=by
 cases hu:(m.aj n).up with
 |false=>rw[oN hu];exact⟨⟨g,I,.refl g,λ_ h=>h⟩,by omega⟩
 |true=>
  obtain⟨rs,us,M⟩:=(hB.jH n hn).uH hu
  cases hp:(m.aj n).OO with
  |some p=>
   obtain⟨h1,h2,h3⟩:=M.FI p hp;obtain⟨_,hf⟩:=jL M.tape M.mG h2 h3;obtain⟨cO,y1,y2,y3,_⟩:=Cr E hu hp h3 hf h2;refine⟨WI I hn E hu hp h2,?_⟩;rw[y1,Jo,y3];omega
  |none=>
   have hus:=M.sK hp;subst hus;have hd:(dz rs).length+46<=100000:=by have:=M.data;rw[bI]at this;rw[<-this];exact Z
   have key:=og (n:=n) (λm1=>(Kt m n rs m1/\(m1.aj n).data.length<=(dz rs).length+184)/\ ∃g1,QI m1 q g1/\sD g g1/\((vw m q g.o).F9=3->(vw m1 q g.o).F9=3)) (λm1 l r H hp1 hin=>by
    obtain⟨⟨H1,D1⟩,g1,I1,S1,R1⟩:=H;obtain⟨h1,h2,h3,h4⟩:=oh (λl hl=>lM (hB.jk n hn l hl)) H1 hp1 hin;have hl0:l∈(m1.aj n).Mv:=by rw[hin];simp
    obtain⟨b1,b2⟩:=hB.jk n hn l (H1.jk l hl0);have O:(m1.put n ((m1.aj n).box r)).aj=PN m1.aj n ((m1.aj n).box r):=rfl;have J:((m1.aj n).box r).view q=(m1.aj n).view q:=rfl;have hvw:=oU O J;have I2:QI (m1.put n ((m1.aj n).box r)) q g1:=I1.far hn O J E E (λx hx=>by rw[hin];exact dM _ hx) (λx hx=>.inl hx) E E E;have e0:(m1.put n ((m1.aj n).box r)).aj n=(m1.aj n).box r:=aY _;have hdd:=h2.data;rw[bI]at hdd;obtain⟨g2,I3,S3,R3⟩:=acH I2 hn (by rw[e0];exact H1.up) h2 (by rw[e0];exact hp1) (λhlq=>by rw[hvw];exact I1.nD l ⟨hlq,.inr ⟨n,hn,hl0⟩⟩) b2 b1.2.2.2 h1.1 (by rw[hdd];exact hd) (by rw[S1.G];exact hG) h3;have D2:=aoi b1.2.1 h3;rw[hdd]at D2;refine⟨h1.1,⟨h4,D2⟩,g2,I3,S1.trans S3,λh=>?_⟩;have h9:=R1 h;rw[<-S1.o]at h9⊢;rw[<-hvw]at h9;exact R3 h9) _ m E ⟨⟨zx hu ⟨_,M⟩,by have:=M.data;rw[bI]at this;rw[this];omega⟩,g,I,.refl g,id⟩
   obtain⟨⟨H1,D1⟩,g1,I1,S1,R1⟩:=key;have hd0:=bP length M.data;rw[bI]at hd0;rw[jy hu hp]
   split
   ·obtain⟨I2,e2⟩:=WH I1 hn H1.up;refine⟨⟨g1,I2,S1.next,λ_ h=>by rw[e2];exact R1 h⟩,?_⟩;have e:(((m.more n).lu n).aj n)={ (m.more n).aj n with turn:=((m.more n).aj n).turn+1}:=aY _;rw[e]
    show((m.more n).aj n).data.length<=_
    omega
   exact⟨⟨g1,I1,S1.next,λ_ h=>R1 h⟩,by omega⟩
def QIx(m:Cl)(q:Nat)(g:Gh)(ls:List bO):Prop:=TU g (vw m q) (Cc m q) (PK m) (λl=>PI m q l\/(l.q=q/\l∈ls)) (m.off.at q) (Mr m q) (Mq m q)
def qp{d:TW}{k q:Nat}{p:Pl}(I:k<4)(J:q<4):(d.set k p).at q=if q=k then p else d.at q:=by
 have h1:k=0\/k=1\/k=2\/k=3:=Y;have h:q=0\/q=1\/q=2\/q=3:=Y
 rcases h1 with rfl|rfl|rfl|rfl<;>rcases h with rfl|rfl|rfl|rfl<;>rfl
def Lr{d:TW}{q ep nd:Int}(h:(yI d q ep nd).2=0):(aN d q).2=0/\0<=nd/\nd<=4/\(aN d q).1.ME=ep/\yI d q ep nd=(d.set q.toNat ⟨nd,ep+1⟩,0):=by
 unfold yI at h⊢;by_cases c1:(aN d q).2≠0
 ·rw[au c1]at h;exact av h c1
 rw[ah c1]at h⊢;by_cases c2:nd<0\/4<nd
 ·rw[au c2]at h;exact av h dQ
 rw[ah c2]at h⊢;by_cases c3:(aN d q).1.ME≠ep
 ·rw[au c3]at h;exact av h dQ
 rw[ah c3]at h⊢;by_cases I:(aN d q).1.node=nd
 ·rw[au I]at h;exact av h dQ
 rw[ah I]at h⊢;by_cases J:ep=1048576
 ·rw[au J]at h;exact av h dQ
 rw[ah J];exact⟨fE.1 c1,by omega,by omega,fE.1 c3,E⟩
def WK(I:QIx m q g (l::ls))(hl:jY l)(hq:q<4):QIx (m.P6 l) q g ls/\vw (m.P6 l) q=vw m q:=by
 have Z:∀ {x:bO},(PI m q x\/(x.q=q/\x∈ls))->(PI m q x\/(x.q=q/\x∈l::ls)):=λh=>h.imp id λh=>⟨h.1,dM _ h.2⟩;obtain⟨hlq,_,h1|⟨h1,h2,h3,h4⟩|⟨h1,h2,h3⟩,_⟩:=id hl
 ·have e:m.P6 l={m with bQ:=m.bQ++[l.bQ]}:=au h1;rw[e];exact⟨I.En λx M=>.inl (Z M),E⟩
 ·have key:TU g (vw m q) (Cc m q) (PK m) (λx=>PI m q x\/(x.q=q/\x∈l::ls)) ((eu m.off l).at q) (Mr m q) (Mq m q):=by
   unfold eu;by_cases c:0<=l.nd/\(yI m.off l.q l.ep l.nd).2=0
   ·rw[au c];obtain⟨f1,f2,f3,f4,f5⟩:=Lr c.2;rw[f5];dsimp only;rw[fB,qp hlq hq];by_cases e:q=l.q
    ·rw[au e];obtain⟨_,_,w3⟩:=qm (d:=m.off) (q:=l.q) (λh=>h f1);have w3':(aN m.off l.q).1=m.off.at q:=by rw[w3,fB,e]
     rw[w3']at f4;obtain⟨d,d1,d2,d3⟩:=I.dir;rw[d1]at f4;dsimp only at f4;obtain⟨k,k1,k2,k3,k4⟩:=(I.nD l (.inr ⟨e.symm,gJ ..⟩)).2.2.1 h4 f2;have hk:k+1=g.m:=Y;rw[hk]at k4;refine I.az2 ?_;simp only[Pl.mk.injEq];omega
    rw[ah e];exact I
   rw[ah c];exact I
  unfold Cl.P6;rw[ah Y,au h1]
  split
  ·rename_i hw
   refine⟨key.En λx M=>?_,E⟩
   rcases M with⟨x1,J⟩|M
   ·rcases J with J|J
    ·rcases aP.1 J with J|J
     ·exact .inl (.inl ⟨x1,.inl J⟩)
     rw[aF]at J;subst J;refine .inr ?_;have hkd:(mE l.fr l.q (aN (eu m.off l) l.q).1).kd=6:=rfl;refine⟨λe=>by rw[hkd]at e;omega,λe=>by rw[hkd]at e;omega,λe=>by rw[hkd]at e;omega,λ_=>?_⟩;have x1':l.q=q:=x1;subst x1';obtain⟨_,_,w3⟩:=qm (d:=eu m.off l) (q:=l.q) (λh=>h hw);rw[fB]at w3;obtain⟨d,d1,d2,d3⟩:=key.dir
     show ∃k:Nat,(aN (eu m.off l) l.q).1.ME=k/\1<=k/\(k:Int)<=((eu m.off l).at l.q).ME/\((g.own k:Nat):Int)=(aN (eu m.off l) l.q).1.node
     rw[w3,d1];exact⟨d,E,d2,jg _,E⟩
    exact .inl (.inl ⟨x1,.inr J⟩)
   exact .inl (.inr ⟨M.1,dM _ M.2⟩)
  exact⟨key.En λx M=>.inl (Z M),E⟩
 unfold Cl.P6;rw[ah Y,ah Y];have hn:l.tg.toNat<5:=Y
 split
 ·rename_i hu
  have O:(m.put l.tg.toNat {m.aj l.tg.toNat with Mv:=(m.aj l.tg.toNat).Mv++[l]}).aj=PN m.aj l.tg.toNat ((m.aj l.tg.toNat).box ((m.aj l.tg.toNat).Mv++[l])):=rfl;have hvw:=oU (q:=q) O E;refine⟨?_,hvw⟩;unfold QIx;rw[hvw,zy O E,pY O E];refine I.En λx M=>.inl ?_
  rcases M with⟨x1,J⟩|M
  ·rcases J with J|⟨j,hj,J⟩
   ·exact .inl ⟨x1,.inl J⟩
   rw[O]at J;by_cases e:j=l.tg.toNat
   ·subst e;rw[Jo]at J
    rcases aP.1 J with J|J
    ·exact .inl ⟨x1,.inr ⟨_,hj,J⟩⟩
    rw[aF]at J;subst J;exact .inr ⟨x1,gJ ..⟩
   rw[Ox e]at J;exact .inl ⟨x1,.inr ⟨j,hj,J⟩⟩
  exact .inr ⟨M.1,dM _ M.2⟩
 exact⟨I.En λx M=>.inl (Z M),E⟩
def RH:∀(ls:List bO) {m:Cl},QIx m q g ls->(∀l∈ls,jY l)->q<4->QIx (ls.foldl Cl.P6 m) q g []/\vw (ls.foldl Cl.P6 m) q=vw m q
 |[],m,I,_,_=>⟨I,E⟩
 |l::ls,m,I,h,J=>by
  obtain⟨M,e⟩:=WK I (h l iQ) J;obtain⟨O,Z⟩:=RH ls M (λx hx=>h x (by simp[hx])) J;exact⟨O,Z.trans e⟩
def Tt:QIx m q g []↔QI m q g:=by
 constructor
 ·intro I;exact I.En λx J=>.inl (.inl J)
 intro I;exact I.En λx J=>.inl (J.elim id λh=>by simp at h)
def Lu(I:QI m q g)(M:∀l∈m.OM,jY l)(O:q<4):QI m.all q g/\vw m.all q=vw m q:=by
 have Z:QIx {m with OM:=[]} q g m.OM:=I.En λx hx=>.inl (by
  rcases hx with⟨J,h⟩|⟨J,h⟩
  ·rcases h with h|h
   ·simp at h
   exact⟨J,.inr h⟩
  exact⟨J,.inl h⟩)
 obtain⟨I1,e⟩:=RH m.OM Z M O;exact⟨Tt.1 I1,e⟩
def WL{at_:Nat}{c s:Bool}(I:QI m q g)(hl:∀l∈m.OM,jY l)(hq:q<4):QI (m.pick at_ c s) q g/\vw (m.pick at_ c s) q=vw m q:=by
 unfold Cl.pick
 split
 ·exact⟨I,E⟩
 rename_i l hl2
 have hm:=jN hl2;have O:QIx (if s=true then m else{m with OM:=m.OM.eraseIdx (at_ % m.OM.length)}) q g [l]/\vw (if s=true then m else{m with OM:=m.OM.eraseIdx (at_ % m.OM.length)}) q=vw m q:=by
  split
  ·exact⟨I.En λx M=>.inl (M.elim id λh=>by have:=h.2;rw[aF]at this;subst this;exact⟨h.1,.inl hm⟩),E⟩
  exact⟨I.En λx M=>.inl (by
   rcases M with⟨Z,J⟩|⟨Z,J⟩
   ·rcases J with J|J
    ·exact⟨Z,.inl (Lp J)⟩
    exact⟨Z,.inr J⟩
   rw[aF]at J;subst J;exact⟨Z,.inl hm⟩),E⟩
 dsimp only
 split
 ·obtain⟨I1,e⟩:=WK O.1 (hl l hm) hq;exact⟨Tt.1 I1,e.trans O.2⟩
 exact⟨Tt.1 (O.1.En λx M=>.inl (M.elim .inl λh=>by simp at h)),O.2⟩
def WM(I:QI m q g){c:Nat}(M:l.kd=0):QI {m with OM:=m.OM++[l],calls:=c} q g/\vw {m with OM:=m.OM++[l],calls:=c} q=vw m q:=by
 refine⟨I.En λx O=>?_,E⟩;obtain⟨J,h⟩:=O
 rcases h with h|h
 ·rcases aP.1 h with h|h
  ·exact .inl ⟨J,.inl h⟩
  rw[aF]at h;subst h;exact .inr (pF (.inl M))
 exact .inl ⟨J,.inr h⟩
def H8{q':Nat}{tg:Int}{T S eZ K:Nat}(I:QI m q g)(hB:dW m T S eZ K)(hq':q'<4)(hq:q<4):QI (m.move q' tg) q g/\((vw m q g.o).F9=3->(vw (m.move q' tg) q g.o).F9=3)/\ ∀n,((m.move q' tg).aj n).data=(m.aj n).data:=by
 unfold Cl.move
 split
 ·exact⟨I,id,λ_=>E⟩
 rename_i h0
 have hw:¬(aN m.off q').2≠0:=λe=>h0 (.inl e);have hne:¬(aN m.off q').1.node=tg:=λe=>h0 (.inr (.inl e));obtain⟨hn,aOZ,w3⟩:=qm hw;have hu:(m.aj (aN m.off q').1.node.toNat).up=true:=by
  cases e:(m.aj (aN m.off q').1.node.toNat).up with
  |true=>rfl
  |false=>exact av (.inr (.inr e)) h0
 rw[fB]at w3
 split
 ·rename_i h1
  obtain⟨h1,h2⟩:=h1;obtain⟨g1,g2,g3,g4⟩:=go_ok h1;rw[g4]at h2⊢;dsimp only at h2⊢;have hnn:(aN m.off q').1.node=(((aN m.off q').1.node.toNat:Nat):Int):=Y;generalize (aN m.off q').1.node.toNat=n at*;have Lv:(m.aC n q' ⟨2,((m.aj n).bs q').ep,0,tg,0,((m.aj n).bs q').Jp⟩).aj=PN m.aj n ((m.aj n).aC q' ⟨2,((m.aj n).bs q').ep,0,tg,0,((m.aj n).bs q').Jp⟩):=rfl
  suffices hs:QI (m.aC n q' ⟨2,((m.aj n).bs q').ep,0,tg,0,((m.aj n).bs q').Jp⟩) q g/\((vw m q g.o).F9=3->(vw (m.aC n q' ⟨2,((m.aj n).bs q').ep,0,tg,0,((m.aj n).bs q').Jp⟩) q g.o).F9=3)from⟨hs.1,hs.2,λj=>by
   rw[Lv];by_cases e:j=n
   ·subst e;rw[Jo];rfl
   rw[Ox e]⟩
  by_cases e:q'=q
  ·subst e;have hV:=iC (q:=q') hu;have ho:=I.oEp hn (by rw[hV];exact .inl g1);have iD:((m.aj n).bs q').ep=g.m:=by rw[<-hV,ho];exact I.vV
   have ZK:((m.aj n).aC q' ⟨2,((m.aj n).bs q').ep,0,tg,0,((m.aj n).bs q').Jp⟩).view q'=⟨2,((m.aj n).bs q').ep,0,tg,0,((m.aj n).bs q').Jp⟩:=by rw[fZ (X:=(m.aj n).aC q' _) hu];exact Jo _ _ _
   have hvw:vw (m.aC n q' ⟨2,((m.aj n).bs q').ep,0,tg,0,((m.aj n).bs q').Jp⟩) q'=PN (vw m q') n ⟨2,((m.aj n).bs q').ep,0,tg,0,((m.aj n).bs q').Jp⟩:=by rw[wR Lv,ZK]
   have afE:((m.aj n).bs q').ep=(m.off.at q').ME:=by rw[<-w3];exact h2
   have I2:TU g (PN (vw m q') g.o ⟨2,((m.aj n).bs q').ep,0,tg,0,((m.aj n).bs q').Jp⟩) (Cc m q') (PK m) (PI m q') (m.off.at q') (Mr m q') (Mq m q'):=by
    refine TU.ae6 I (λp hp=>?_) ?_ ?_ ?_ ?_ ?_ ?_
    ·obtain⟨_,hk⟩:=I.nQ g.o I.o5 p hp;rw[<-ho]at hk⊢
     cases p with
     |serve k Jp op num a=>
      obtain⟨k1,k2,k3⟩:=hk;exact⟨k1,by rw[Jo];exact .inr E,k3⟩
     |P8 k b=>obtain⟨_,_,_,_,k4,_⟩:=hk;rw[hV]at k4;exfalso;omega
     |T9 k b last=>have:=hk.1;rw[hV]at this;exfalso;omega
     |gy k b a=>have:=hk.2.1;rw[hV]at this;exfalso;omega
     |P5 k b=>have:=hk.1;rw[hV]at this;exfalso;omega
    ·exact iD
    ·show((m.aj n).bs q').Jp=_;rw[<-hV,ho];exact I.yN
    ·exact .inr (.inl E)
    ·intro _;refine⟨by rw[<-afE];exact iD,?_,g2,by show tg<5;omega⟩
     show ¬tg=(g.o:Int)
     rw[<-ho,<-hnn];exact λe=>hne e.symm
    ·intro h;rw[<-ho,hV]at h;omega
    intro h;exact av (show(2:Int)=3 from h) dQ
   rw[<-ho]at I2;exact⟨QI.mk' I2 hvw (zy Lv E) (pY Lv E) (HY Lv (λ_ h=>h) hn E) E E E,λh=>by rw[<-ho,hV]at h;omega⟩
  have ZK:((m.aj n).aC q' ⟨2,((m.aj n).bs q').ep,0,tg,0,((m.aj n).bs q').Jp⟩).view q=(m.aj n).view q:=by
   rw[fZ (X:=(m.aj n).aC q' _) hu,fZ hu];exact Ox (λh=>e h.symm)
  exact⟨I.far hn Lv ZK E E (λ_ h=>h) (λx hx=>.inl hx) E E E,by rw[oU Lv ZK];exact id⟩
 exact⟨I,id,λ_=>E⟩
def TU.axT(I:TU g V P U Lt pl sh sv)(hn:n<5)(O:P n=none):TU g (PN V n (kU (V n))) P U Lt pl sh sv:=by
 by_cases M:(V n).F9=2
 ·have Z:=I.oEp hn (.inr M);subst Z;have e:kU (V g.o)=⟨1,(V g.o).ep,0,0,0,(V g.o).Jp⟩:=by unfold kU;rw[au M]
  rw[e];exact I.ae6 (λp J=>by rw[O]at J;cases J) I.vV I.yN (.inl E) (λh=>av E h) (λh=>by omega) λh=>av (show(1:Int)=3 from h) dQ
 rw[sW M,aJ E];exact I
def TU.UZ{bs:Nat->bC}{x:bC}(I:TU g V P U Lt pl sh sv)(hn:n<5)(hV:V n=bs q)(hr2:∀p,P n=some p->p.q=q)(Z:x=kU (bs q)\/ ∃p,P n=some p/\p.q=q/\Pf bs p x):
 ∃g',TU g' (PN V n x) (PN P n none) (PN U n false) Lt pl sh sv/\rE g g'/\(g'.m=g.m->(V g.o).F9=3->(PN V n x g.o).F9=3):=by
 have I1:=I.down n;have O:(PN P n none) n=none:=Jo _ _ _;have J:∀ {y:bC},((V n).F9=3->y.F9=3)->((V g.o).F9=3->(PN V n y g.o).F9=3):=λ{y} h h2=>by
  by_cases e:g.o=n
  ·rw[e]at h2⊢;rw[Jo];exact h h2
  rw[Ox e];exact h2
 have axU:∃g',TU g' (PN V n (kU (bs q))) (PN P n none) (PN U n false) Lt pl sh sv/\rE g g'/\(g'.m=g.m->(V g.o).F9=3->(PN V n (kU (bs q)) g.o).F9=3):=by
  rw[<-hV];exact⟨g,I1.axT hn O,.refl g,λ_=>J λh=>by rw[sW Y];exact h⟩
 rcases Z with Z|⟨p,hp,hq,Z⟩
 ·rw[Z];exact axU
 obtain⟨hu,hk⟩:=I.nQ n hn p hp
 rcases Z with Z|Z|⟨k,b,last,j,h1,Z,h3⟩
 ·rw[Z,hq];exact axU
 ·cases p with
  |serve k Jp op num a=>
   have e:k=q:=hq;subst e;obtain⟨k1,k2,k3,k4,k5⟩:=hk;obtain⟨t1,t2,t3⟩:=I.U3 (by rw[<-k1];exact hu);have hr3:(V n).F9≠3:=by unfold Qc at k2;omega
   have M:x=kU {V n with Jp:=Jp}:=by rw[Z,hV];rfl
   have I2:TU (g.app op) (PN V n {V n with Jp:=Jp}) (PN P n none) (PN U n false) Lt pl sh sv:=by
    subst k1;exact I1.append (e:=op) (b:={V g.o with Jp:=Jp}) O (Jo _ _ _) hr3 t1 (by rw[<-k3];exact k5) E E E k3
   have I3:=I2.axT hn O;rw[Jo,DK,<-M]at I3;exact⟨_,I3,⟨aB,λ_ _=>E,by show(g.G++[op]).length<=_;simp⟩,λ_=>J λh=>av h hr3⟩
  |P8 k b=>
   obtain⟨j,j1,j2,j3,j4,j5⟩:=hk;have M:x=b:=by rw[Z];show kU b=b;rw[j1];exact Lm (.inl E)
   have I2:=I1.Vw (b:=b) hn (I.rW j4) O (by rw[j1];exact I.RG j2 j3 j5) (by rw[j1];show _<=(j:Int)+1;omega);rw[M];exact⟨g,I2,.refl g,λ_=>J λh=>by omega⟩
  |T9 k b last=>
   obtain⟨j1,j2,j3⟩:=hk
   cases last with
   |true=>
    obtain⟨a1,a2,a3,a4,a5⟩:=j3 E;have M:x=⟨1,(g.m:Int)+1,0,0,0,g.G++[bg]⟩:=by rw[Z];show kU b=_;rw[a4];rfl
    have I2:=I1.activate (T:=n) a2 a3 O (Jo _ _ _) a5 (by rw[a1];exact jg _);rw[M];exact⟨_,I2,⟨by show g.m<=g.m+1;omega,λk hk=>Ox Y,by show(g.G++[bg]).length<=_;simp⟩,λh=>by
     have:g.m+1=g.m:=h;omega⟩
   |false=>
    obtain⟨j,a1,a2,a3⟩:=j2 E;have M:x=b:=by rw[Z];show kU b=b;rw[a1];exact Lm (.inl j1)
    have I2:=I1.Vw (b:=b) hn (I.rW (.inr j1)) O (by rw[a1];exact I.M6 hn j1 a3) (by rw[a1];exact jg _);rw[M];exact⟨g,I2,.refl g,λ_=>J λh=>by omega⟩
  |gy k b at_=>
   obtain⟨ho,j1,j2⟩:=hk;obtain⟨t1,t2,t3⟩:=I.U3 (by rw[<-ho];exact hu);have ZI:=I.UJ (by rw[<-ho];omega);have M:x=b:=by rw[Z];show kU b=b;rw[j2];exact Lm (.inr (.inr (.inl E)))
   have I2:TU g (PN V g.o b) (PN P n none) (PN U n false) Lt pl sh sv:=by
    refine TU.ae6 I1 (λp' hp'=>?_) ?_ ?_ ?_ ?_ ?_ λ_=>t2
    ·rw[<-ho,Jo]at hp';cases hp'
    ·rw[j2,ho];exact I.vV
    ·rw[j2,ho];exact I.yN
    ·rw[j2];exact .inr (.inr E)
    ·intro _;rw[j2,ho];exact ZI
    intro h;rw[<-ho]at h;omega
   rw[<-ho]at I2;rw[M];exact⟨g,I2,.refl g,λ_=>J λ_=>by rw[j2]⟩
  |P5 k b=>
   obtain⟨j1,j2,j3⟩:=hk;obtain⟨hne,hoth⟩:=I.Oh hn j1 j3;have M:x=b:=by rw[Z];show kU b=b;rw[j2];exact Lm (.inr (.inl E))
   have I2:=I1.Vw (b:=b) hn hne O (by rw[j2];exact hoth) (by rw[j2];exact jg _);rw[M];refine⟨g,I2,.refl g,λ_ h=>?_⟩;rw[Ox (λe=>hne e.symm)];exact h
 subst h1;have e:k=q:=hq;subst e;obtain⟨j1,j2,j3⟩:=hk;have hev:∃i,b.Jp.take ((bs k).Jp.length+j)=g.G.take i/\ ∀k':Nat,(V n).ep=(k':Int)+1->i<=g.bd k':=by
  cases last with
  |true=>
   obtain⟨a1,a2,a3,a4,a5⟩:=j3 E;have hb:b.Jp=g.G++[bg]:=by rw[a4]
   simp only[if_true]at h3;rw[hb,aZ,l8]at h3;refine⟨(bs k).Jp.length+j,by rw[hb,sV Y],λk' hk'=>?_⟩;have:k'=g.m:=Y;subst this;unfold Gh.bd;rw[au E];omega
  |false=>
   obtain⟨i,a1,a2,a3⟩:=j2 E;have hb:b.Jp=g.G.take i:=by rw[a1]
   refine⟨min ((bs k).Jp.length+j) i,by rw[hb,yh],λk' hk'=>gB (Nat.min_le_right _ _) (a3 k' hk')⟩
 obtain⟨i,e1,e2⟩:=hev;have M:x={V n with Jp:=g.G.take i}:=by rw[Z,e1,hV]
 have I2:=I1.Vw (b:={V n with Jp:=g.G.take i}) hn (I.rW (.inr j1)) O (I.M6 hn j1 e2) (jg _);rw[M];exact⟨g,I2,.refl g,λ_=>J λh=>by omega⟩
def QD(m:Cl)(q:Nat)(g:Gh)(n:Nat):Prop:=TU g (vw m q) (Cc m q) (PN (PK m) n false) (PI m q) (m.off.at q) (Mr m q) (Mq m q)
structure W1 (m m':Cl)(n q':Nat):Prop where
 aj:∃b,m'.aj=PN m.aj n {m.aj n with bs:=PN (m.aj n).bs q' b}
 OM:m'.OM=m.OM
 off:m'.off=m.off
 sh:∀q,q'≠q->Mr m' q=Mr m q
 sv:∀q,q'≠q->Mq m' q=Mq m q
def QD.far(I:QD m q g n)(hn:n<5)(hu:(m.aj n).up=true){q':Nat}(Z:q'≠q)(W:W1 m m' n q'):QD m' q g n/\vw m' q=vw m q/\(m'.aj n).up=true/\(m'.aj n).bs q=(m.aj n).bs q/\(m'.aj n).OO=(m.aj n).OO:=by
 obtain⟨b,J⟩:=W.aj;have M:({m.aj n with bs:=PN (m.aj n).bs q' b}:Nd).view q=(m.aj n).view q:=by
  rw[fZ (X:={m.aj n with bs:=PN (m.aj n).bs q' b}) hu,fZ hu];exact Ox (λe=>Z e.symm)
 have O:=oU J M;have hun:PK m'=PK m:=pY J E;refine⟨?_,O,by rw[J,Jo];exact hu,by rw[J,Jo];exact Ox (λe=>Z e.symm),by rw[J,Jo]⟩;unfold QD;rw[O,zy J E,hun,W.off,W.sh q Z,W.sv q Z];exact I.En λx hx=>by
  obtain⟨x1,h⟩:=hx
  rcases h with h|⟨j,hj,h⟩
  ·rw[W.OM]at h;exact .inl ⟨x1,.inl h⟩
  rw[J]at h;by_cases e:j=n
  ·subst e;rw[Jo]at h;exact .inl ⟨x1,.inr ⟨j,hj,h⟩⟩
  rw[Ox e]at h;exact .inl ⟨x1,.inr ⟨j,hj,h⟩⟩
def nE{T S eZ K:Nat}(O:dW m T S eZ K)(hn:n<5){j:Nat}(I:j≠n):(m.step n).aj j=m.aj j:=by
 cases h:(m.aj n).up with
 |false=>rw[oN h]
 |true=>
  obtain⟨rs,us,J⟩:=(O.jH n hn).uH h
  cases M:(m.aj n).OO with
  |some p=>
   obtain⟨h1,Z,h3⟩:=J.FI p M;obtain⟨_,hf⟩:=jL J.tape J.mG Z h3;obtain⟨cO,y1,_⟩:=Cr E h M h3 hf Z;rw[y1,Ox I]
  |none=>
   have R:=M4 h ⟨us,J⟩ λl hl=>lM (O.jk n hn l hl);rw[jy h M]
   split
   ·show PN (m.more n).aj n _ j=_
    rw[Ox I];exact R.oM j I
   exact R.oM j I
def RI(m:Cl)(l:bO)(j:Nat):((m.P6 l).aj j).data=(m.aj j).data:=by
 unfold Cl.P6
 split
 ·rfl
 split
 ·split<;>rfl
 split
 ·show((PN m.aj l.tg.toNat _) j).data=_
  by_cases e:j=l.tg.toNat
  ·rw[e,Jo]
  rw[Ox e]
 rfl
def Oi:∀(ls:List bO) (m:Cl) (j:Nat),((ls.foldl Cl.P6 m).aj j).data=(m.aj j).data
 |[],_,_=>rfl
 |l::ls,m,j=>(Oi ls (m.P6 l) j).trans (RI m l j)
def afF(m:Cl)(at_:Nat)(c s:Bool)(j:Nat):((m.pick at_ c s).aj j).data=(m.aj j).data:=by
 unfold Cl.pick
 split
 ·rfl
 dsimp only
 split
 ·rw[RI]
  split<;>rfl
 split<;>rfl
structure Later (q:Nat)(g g':Gh)(m m':Cl):Prop where
 mle:g.m<=g'.m
 own:∀k,k<=g.m->g'.own k=g.own k
 gy:U4 q g g' m m'
def Later.refl:Later q g g m m:=⟨aB,λ_ _=>E,λ_ h=>h⟩
def Later.trans(h:Later q g g' m m')(I:Later q g' g2 m' m2):Later q g g2 m m2:=by
 refine⟨gB h.mle I.mle,λk J=>(I.own k (gB J h.mle)).trans (h.own k J),λe Z=>?_⟩;have h1:=h.mle;have h2:=I.mle;have M:g'.m=g.m:=Y;have O:g'.o=g.o:=by unfold Gh.o;rw[M];exact h.own _ aB
 have:=I.gy Y (by rw[O];exact h.gy M Z);rwa [O]at this
def rE.later(h:rE g g')(I:U4 q g g' m m'):Later q g g' m m':=⟨h.m,h.own,I⟩
structure LW (m:Cl)(q:Nat)(g:Gh)(k:Nat):Prop where
 qi:QI m q g
 RF:g.G.length<=k
 data:∀n,n<5->(m.aj n).data.length<=184*k
end
def afG(n q:Nat):Ac:=⟨1,n,q,0,0,0,0,0,0,0,0⟩
def ap2{n q:Nat}(hn:n<5)(I:q<4):Es (afG n q):=⟨by show(1:Int)<=1/\(1:Int)<=10;omega,by show 0<=(n:Int)/\(n:Int)<=4;omega,by show 0<=(q:Int)/\(q:Int)<=3;omega,by show(0:Int)<=0/\(0:Int)<=1048576;omega,by show(0:Int)<=0/\(0:Int)<=100000;omega,λh=>av (show(1:Int)=2 from h) dQ⟩
def acJ{m:Cl}{n q:Nat}{d:TW}{x:List UInt8}(h:(m.aj n).up=true)(I:(m.aj n).OO=none)(O:uX m.off q n=(d,0))(J:jX ((m.aj n).bs q) 1=(⟨1,1,0,0,0,[]⟩,0))(hw:gH (m.aj n).data (m.aj n).OY [gZ 1 q 1 0 aQ]=some x):
 m.make n q={m.put n {m.aj n with data:=x,OY:=x.length,bs:=PN (m.aj n).bs q ⟨1,1,0,0,0,[]⟩}with off:=d,PU:=kM m.PU n q (1,0)}:=by
 obtain⟨X,M⟩:∃X,m.aj n=X:=⟨_,E⟩;rw[M]at h I J hw⊢;unfold Cl.make Nd.write;rw[M,O,J,hw,ah (by rw[h,I];simp),ah iQ];rfl
def Fe(q:Nat):List UInt8:=dz [gZ 1 q 1 0 aQ]
def nK(q:Nat):Nd:={nd0 with data:=Fe q,OY:=(Fe q).length,bs:=PN (λ_=>bX) q ⟨1,1,0,0,0,[]⟩}
def arI:Cl:={lT with aj:=PN lT.aj 0 (nK 0),off:=⟨⟨0,1⟩,nowhere,nowhere,nowhere⟩,PU:=kM lT.PU 0 0 (1,0)}
def nL:Cl:={lT with aj:=PN (PN lT.aj 0 (nK 0)) 1 (nK 1),off:=⟨⟨0,1⟩,⟨1,1⟩,nowhere,nowhere⟩,PU:=kM (kM lT.PU 0 0 (1,0)) 1 1 (1,0)}
def ap3{q:Nat}(I:q<4):gH nd0.data nd0.OY [gZ 1 q 1 0 aQ]=some (Fe q):=by
 have:=BI (rs:=[gZ 1 q 1 0 aQ]) (l:=[]) (s:=0) (λr h=>by rw[aF]at h;subst h;exact rV Y I Y Y dQ) Y iQ iQ;rw[nil_append]at this;exact this
def dmk{d:TW}{q n:Nat}(I:∀k,k<4->zP (d.at k))(M:q<4)(hn:n<5)(J:d.at q=nowhere):uX d q n=(d.set q ⟨n,1⟩,0):=by
 unfold uX;rw[Tg (yS I) Y];dsimp only;rw[ah iQ,ah Y,ah (by rw[fB];exact λh=>h J),fB]
def ahZ:lT.Ub (afG 0 0)=arI:=by
 show lT.make 0 0=_
 rw[acJ (d:=⟨⟨0,1⟩,nowhere,nowhere,nowhere⟩) (x:=Fe 0) E E (dmk (d:=⟨nowhere,nowhere,nowhere,nowhere⟩) (q:=0) (n:=0) (λk I=>by
  have h:k=0\/k=1\/k=2\/k=3:=Y
  rcases h with rfl|rfl|rfl|rfl<;>exact .inl ⟨E,E⟩) Y Y E) (Tk (q:=0) Tn E dQ Y).1 (ap3 Y)]
 rfl
def ah0:arI.Ub (afG 1 1)=nL:=by
 show arI.make 1 1=_
 rw[acJ (d:=⟨⟨0,1⟩,⟨1,1⟩,nowhere,nowhere⟩) (x:=Fe 1) E E (dmk (d:=⟨⟨0,1⟩,nowhere,nowhere,nowhere⟩) (q:=1) (n:=1) (λk I=>by
  have h:k=0\/k=1\/k=2\/k=3:=Y
  rcases h with rfl|rfl|rfl|rfl<;>first|exact .inl ⟨rfl,rfl⟩|exact .inr ⟨by decide,by decide,by decide,by decide⟩) Y Y E) (Tk (q:=1) Tn E dQ Y).1 (ap3 Y)]
 rfl
def g0(q:Nat):Gh:=⟨1,λ_=>q,λ_=>0,[],0,1⟩
def ap4{q:Nat}(hq:q<2):LW nL q (g0 q) 2:=by
 have hV:∀n,vw nL q n=if n=q then⟨1,1,0,0,0,[]⟩else bX:=λn=>by
  have hup:(nL.aj n).up=true:=by
   show(PN (PN lT.aj 0 (nK 0)) 1 (nK 1) n).up=true
   unfold PN
   split
   ·rfl
   split<;>rfl
  rw[iC hup]
  show(PN (PN lT.aj 0 (nK 0)) 1 (nK 1) n).bs q=_
  have h:q=0\/q=1:=Y
  rcases h with rfl|rfl
  ·by_cases M:n=1
   ·subst M;rfl
   by_cases O:n=0
   ·subst O;rfl
   rw[Ox M,Ox O,ah O];rfl
  by_cases M:n=1
  ·subst M;rfl
  by_cases O:n=0
  ·subst O;rfl
  rw[Ox M,Ox O,ah M];rfl
 have hP:∀n,Cc nL q n=none:=λn=>by
  unfold Cc;have:(nL.aj n).OO=none:=by
   show(PN (PN lT.aj 0 (nK 0)) 1 (nK 1) n).OO=none
   unfold PN
   split
   ·rfl
   split<;>rfl
  rw[this];rfl
 have hI:∀n,(nL.aj n).Mv=[]:=λn=>by
  show(PN (PN lT.aj 0 (nK 0)) 1 (nK 1) n).Mv=[]
  unfold PN
  split
  ·rfl
  split<;>rfl
 have hL:∀l,¬PI nL q l:=λl h=>by
  rcases h.2 with h|⟨j,_,h⟩
  ·cases h
  rw[hI j]at h;cases h
 have Z:nL.off.at q=⟨q,1⟩:=by
  have h:q=0\/q=1:=Y
  rcases h with rfl|rfl<;>rfl
 have hsh:∀n,Mr nL q n=if n=q then(1,0)else(0,0):=λn=>by
  show kM (kM lT.PU 0 0 (1,0)) 1 1 (1,0) n q=_
  have h:q=0\/q=1:=Y
  rcases h with rfl|rfl
  ·unfold kM;rw[ah Y];by_cases e:n=0
   ·rw[au ⟨e,E⟩,au e]
   rw[ah (λh=>e h.1),ah e];rfl
  unfold kM;by_cases e:n=1
  ·rw[au ⟨e,E⟩,au e]
  rw[ah (λh=>e h.1),ah e,ah Y];rfl
 have ho:(g0 q).o=q:=rfl;have J:vw nL q (g0 q).o=⟨1,1,0,0,0,[]⟩:=by rw[hV,ho,au E]
 have hm:(g0 q).m=1:=rfl;refine⟨⟨aB,λ_ _ _=>by show q<5;omega,λk h1 h2=>by rw[hm]at h2;omega,⟨1,Z,aB,.inl E⟩,by rw[J];rfl,by rw[J];rfl,by rw[J];exact .inl E,λh=>by rw[J]at h;exact av E h,zu,λn hn I=>?_,λk h1 h2=>?_,λk h1 h2=>by rw[hm]at h2;omega,λl hl=>av hl (hL l),λn _ p hp=>(by rw[hP]at hp;cases hp),.inl ⟨E,?_,aG _⟩,λ_=>E,λ_=>E,λn _ I=>?_,?_,⟨λs hs=>(by cases hs),λi a b ha=>(by cases ha),λs hs=>(by cases hs),λ_=>E⟩⟩,aG _,λn hn=>?_⟩
 ·rw[ho]at I;rw[hV,ah I];exact .inl ⟨E,by show(0:Int)<=0;omega,by show(0:Int)<1;omega⟩
 ·rw[hm]at h2;have:k=1:=Y;subst this
  show(1:Int)<=(vw nL q q).ep
  rw[hV,au E]
  decide
 ·rw[hsh,ho,au E];rfl
 ·rw[ho]at I;rw[hsh,ah I]
  show(0:Int)<1
  omega
 ·show rp gu []=some (aM (take 0 [])).1
  rw[take_nil,AQ (l:=[]) iQ (show jo gu [] []=some (gu,[])from E)];rfl
 have h1:∀q,(Fe q).length<=46:=λq=>by have:=H7 [gZ 1 q 1 0 aQ];simpa[Fe]using this
 show(PN (PN lT.aj 0 (nK 0)) 1 (nK 1) n).data.length<=_
 unfold PN
 split
 ·have:=h1 1;show(Fe 1).length<=_;omega
 split
 ·have:=h1 0;show(Fe 0).length<=_;omega
 show 0<=_;omega
def ap5:Bs nL 2:=by
 rw[<-ah0,<-ahZ];exact IZ (IZ arD (ap2 Y Y) Y) (ap2 Y Y) Y
def I5(l:bO):Nat:=if l.kd=0\/l.kd=2\/l.kd=3\/l.kd=4 then 1 else 0
def Y5:Option dh->Nat
 |some (.serve _ _ _ _ _)=>1
 |some (.P8 _ _)=>1
 |some (.T9 _ _ _)=>1
 |some (.gy _ _ _)=>1
 |_=>0
def qL:List bO->Nat
 |[]=>0
 |l::r=>I5 l+qL r
def tX(x:Nd):Nat:=qL x.Mv+Y5 x.OO
def Cl.cw(m:Cl):Nat:=qL m.OM+(tX (m.aj 0)+(tX (m.aj 1)+(tX (m.aj 2)+(tX (m.aj 3)+tX (m.aj 4)))))
def Cl.nm(m:Cl)(n:Nat):Nat:=qL m.OM+tX (m.aj n)
def wz:∀(a b:List bO),qL (a++b)=qL a+qL b
 |[],b=>by simp[qL]
 |l::a,b=>by rw[vW,qL,qL,wz a b];omega
def Gy(l:bO):qL [l]=I5 l:=rfl
def JR:∀(a:List bO) (i:Nat) (l:bO),a[i]? =some l->qL (a.eraseIdx i)+I5 l=qL a
 |[],i,l,h=>by cases h
 |x::a,0,l,h=>by cases h;rw[eraseIdx_cons_zero,qL];omega
 |x::a,i+1,l,h=>by
  rw[SH,qL,qL];have:=JR a i l (by simpa using h);omega
def Ms(l:bO):I5 l<=1:=by unfold I5;split<;>omega
def aAh{l:bO}(h:l.kd≠0/\l.kd≠2/\l.kd≠3/\l.kd≠4):I5 l=0:=ah Y
section
variable {m w m':Cl}{n q:Nat}{x:Nd}{l:bO}{op:Ev}{num:Int}{a:kE}{b:bC}{ac:Ac}{X:Nd}{p:dh}{rs us:List dN}
def ZL{d:Nat}(hn:n<5)(I:∀j,j≠n->m'.aj j=m.aj j)(h:m'.nm n<=m.nm n+d):m'.cw<=m.cw+d:=by
 unfold Cl.nm at h;unfold Cl.cw
 rcases five hn with rfl|rfl|rfl|rfl|rfl
 ·rw[I 1 dQ,I 2 dQ,I 3 dQ,I 4 dQ];omega
 ·rw[I 0 dQ,I 2 dQ,I 3 dQ,I 4 dQ];omega
 ·rw[I 0 dQ,I 1 dQ,I 3 dQ,I 4 dQ];omega
 ·rw[I 0 dQ,I 1 dQ,I 2 dQ,I 4 dQ];omega
 rw[I 0 dQ,I 1 dQ,I 2 dQ,I 3 dQ];omega
def Ao:(w.put n x).nm n=qL w.OM+tX x:=by
 unfold Cl.nm;rw[show(w.put n x).aj n=x from Jo _ _ _];rfl
def Lx:(w.send l).nm n=w.nm n+I5 l:=by
 show qL (w.OM++[l])+tX (w.aj n)=qL w.OM+tX (w.aj n)+I5 l
 rw[wz,Gy];omega
def LA(hi:x.Mv=(w.aj n).Mv)(h:x.OO=(w.aj n).OO):(w.put n x).nm n=w.nm n:=by
 rw[Ao];unfold Cl.nm tX;rw[hi,h]
def AV:(w.aC n q b).nm n=w.nm n:=LA E E
def acL:(w.Ug n q op a num).nm n=w.nm n:=rfl
def nm_done:(w.done n q op num a).nm n=w.nm n:=by
 unfold Cl.done
 split
 ·rw[Lx,acL];rfl
 rw[Lx];rfl
def LB:(w.TV n q).nm n=w.nm n+1:=Lx
def acM{at_:Int}:(w.part n q at_).nm n<=w.nm n+1:=by
 unfold Cl.part
 split
 ·omega
 rw[Lx];exact Nat.add_le_add_left (Ms _) _
def H9{rs:List dN}{p:dh}(h:(w.aj n).write rs=some x):(w.put n {x with OO:=some p}).nm n<=w.nm n+Y5 (some p):=by
 unfold Nd.write at h;obtain⟨d,_,rfl⟩:=Dn.1 h;rw[Ao];unfold Cl.nm tX;dsimp only;omega
def RJ{y:Nd}{rs:List dN}(h:y.write rs=some x):x.Mv=y.Mv:=by
 unfold Nd.write at h;obtain⟨d,_,rfl⟩:=Dn.1 h;rfl
def ajQ:(w.serve n l).nm n<=w.nm n+1:=by
 unfold Cl.serve
 split
 ·rw[nm_done];omega
 split
 ·rw[nm_done];omega
 rename_i x h
 exact H9 h
def abm:(w.TM n l).nm n<=w.nm n+1:=by
 unfold Cl.TM
 split
 ·omega
 split
 ·rw[LB];omega
 split
 ·omega
 rename_i x h
 exact H9 h
def au4:(w.T9 n l).nm n<=w.nm n+1:=by
 unfold Cl.T9
 split
 ·omega
 split
 ·rw[LB];omega
 split
 ·omega
 split
 ·omega
 rename_i x h
 exact H9 h
def afH:(w.Ud n l).nm n<=w.nm n+1:=by
 unfold Cl.Ud
 split
 ·omega
 split
 ·omega
 split
 ·have:=acM (w:=w.aC n l.q (bY ((w.aj n).bs l.q) l.at_).1) (n:=n) (q:=l.q) (at_:=l.at_);rw[AV]at this;exact this
 split
 ·omega
 rename_i x h
 exact H9 h
def afI:(w.Ui n l).nm n<=w.nm n:=by
 unfold Cl.Ui
 split
 ·rw[LA (x:=(w.aj n).Qf n l) E E];omega
 split
 ·rw[LA (x:=(w.aj n).Qf n l) E E];omega
 rename_i x I
 have J:=RJ I;have h:x.Mv=(w.aj n).Mv:=J;rw[Ao];unfold Cl.nm tX;rw[show({x with OO:=some (dh.P5 l.q (iw ((w.aj n).bs l.q) l.ep).1)}:Nd).Mv=(w.aj n).Mv from h]
 show qL w.OM+(qL (w.aj n).Mv+0)<=_
 omega
def RL:(w.PY n l).nm n<=w.nm n+I5 l:=by
 unfold Cl.PY I5
 split
 ·rename_i h;rw[au (.inl h)];exact ajQ
 split
 ·rename_i h;rw[au (.inr (.inl h))];exact abm
 split
 ·rename_i h;rw[au (.inr (.inr (.inl h)))];exact afH
 split
 ·rename_i h;rw[au (.inr (.inr (.inr h)))];exact au4
 have:=afI (w:=w) (n:=n) (l:=l);omega
def RN{p:dh}:(w.zY n p).nm n<=w.nm n+Y5 (some p):=by
 cases p with
 |serve q Jp op num a=>show((w.aC n q _).done n q op num a).nm n<=_;rw[nm_done,AV];omega
 |P8 q b=>show((w.aC n q b).TV n q).nm n<=_;rw[LB,AV];exact aB
 |T9 q b last=>
  show(if last=true then((w.aC n q b).put n { (w.aC n q b).aj n with PZ:=PN (w.aj n).PZ q false}).Ug n q bg iX (-1)else(w.aC n q b).TV n q).nm n<=_
  split
  ·rw[acL,LA (w:=w.aC n q b) (x:={ (w.aC n q b).aj n with PZ:=PN (w.aj n).PZ q false}) E E,AV];omega
  rw[LB,AV];exact aB
 |gy q b at_=>
  have:=acM (w:=w.aC n q b) (n:=n) (q:=q) (at_:=at_);rw[AV]at this;exact this
 |P5 q b=>show(w.aC n q b).nm n<=_;rw[AV];omega
def au5{s:Bool}:qL (ig n q b s)<=1:=by
 unfold ig;rw[wz,wz];have h:qL (if b.F9=3 then[Rf n q]else[])=0:=by split<;>rfl
 have I:qL (if b.F9=1/\1<b.ep/\s=false then[Pb n q b]else[])=0:=by split<;>rfl
 have h1:qL (if b.F9=2\/b.F9=3 then[yC n q b]else[])<=1:=by
  split
  ·exact Ms (yC n q b)
  exact aG _
 omega
def acN:(w.lu n).nm n<=w.nm n+1:=by
 show qL (w.OM++ig n ((w.aj n).turn % 4) ((w.aj n).bs ((w.aj n).turn % 4)) ((w.aj n).PZ ((w.aj n).turn % 4)))+tX ((PN w.aj n {w.aj n with turn:=(w.aj n).turn+1}) n)<=_
 rw[wz,Jo];have:=au5 (n:=n) (q:=(w.aj n).turn % 4) (b:=(w.aj n).bs ((w.aj n).turn % 4)) (s:=(w.aj n).PZ ((w.aj n).turn % 4));unfold Cl.nm tX;dsimp only;omega
def aoj{T S eZ K:Nat}(J:dW m T S eZ K)(hn:n<5):(m.step n).cw<=m.cw+1:=by
 cases h:(m.aj n).up with
 |false=>rw[oN h];omega
 |true=>
  obtain⟨rs,us,Z⟩:=(J.jH n hn).uH h;refine ZL hn (λj hj=>nE J hn hj) ?_
  cases M:(m.aj n).OO with
  |some p=>
   unfold Cl.step;rw[ah (by rw[h];decide),M];dsimp only;have h1:=RN (w:=m.put n {m.aj n with OY:=(m.aj n).data.length,OO:=none}) (n:=n) (p:=p);rw[Ao]at h1;unfold Cl.nm tX at h1⊢;rw[M];dsimp only at h1;have e0:Y5 none=0:=rfl;rw[e0]at h1;omega
  |none=>
   have P:=og (n:=n) (λw=>Kt m n rs w/\w.nm n<=m.nm n) (λw l r ⟨H,A⟩ O I=>by
    obtain⟨h1,h2,h3,h4⟩:=oh (λl hl=>lM (J.jk n hn l hl)) H O I;refine⟨h1.1,h4,?_⟩;have h5:=RL (w:=w.put n ((w.aj n).box r)) (n:=n) (l:=l);rw[Ao]at h5;have h6:w.nm n=qL w.OM+(I5 l+qL r+Y5 (w.aj n).OO):=by unfold Cl.nm tX;rw[I];rfl
    have h7:tX ((w.aj n).box r)=qL r+Y5 (w.aj n).OO:=rfl;omega) _ m E ⟨zx h ⟨_,Z⟩,aB⟩
   rw[jy h M]
   split
   ·have:=acN (w:=m.more n) (n:=n);omega
   omega
def Tv:(w.P6 l).cw<=w.cw+I5 l:=by
 unfold Cl.P6
 split
 ·show w.cw<=_;omega
 split
 ·split
  ·unfold Cl.cw
   show qL (w.OM++[_])+_<=_
   rw[wz,Gy,aAh (l:=mE _ _ _) ⟨by show(6:Int)≠0;decide,by show(6:Int)≠2;decide,by show(6:Int)≠3;decide,by show(6:Int)≠4;decide⟩];dsimp only;omega
  show w.cw<=_;omega
 split
 ·by_cases I:l.tg.toNat<5
  ·refine ZL I (λj h=>Ox h) ?_;rw[Ao];unfold Cl.nm tX;dsimp only;rw[wz,Gy];omega
  have e:∀j,j<5->(w.put l.tg.toNat {w.aj l.tg.toNat with Mv:=(w.aj l.tg.toNat).Mv++[l]}).aj j=w.aj j:=λj h=>Ox Y;unfold Cl.cw;rw[e 0 dQ,e 1 dQ,e 2 dQ,e 3 dQ,e 4 dQ]
  show qL w.OM+_<=_
  omega
 omega
def WO:∀(ls:List bO) {w:Cl},(ls.foldl Cl.P6 w).cw<=w.cw+qL ls
 |[],w=>aB
 |l::r,w=>by
  have h1:=WO r (w:=w.P6 l);have h:=Tv (w:=w) (l:=l);rw[qX,qL];omega
def Y6{fl:List bO}:({w with OM:=fl}:Cl).cw+qL w.OM=w.cw+qL fl:=by
 unfold Cl.cw;dsimp only;omega
def ah1:w.all.cw<=w.cw:=by
 have h1:=WO w.OM (w:={w with OM:=[]});have h:=Y6 (w:=w) (fl:=[]);have I:qL []=0:=rfl;unfold Cl.all;omega
def acO{at_:Nat}{c s:Bool}:(w.pick at_ c s).cw<=w.cw+1:=by
 unfold Cl.pick
 split
 ·omega
 rename_i l h
 have h1:(if s=true then w else{w with OM:=w.OM.eraseIdx (at_ % w.OM.length)}:Cl).cw<=w.cw/\(if s=true then w else{w with OM:=w.OM.eraseIdx (at_ % w.OM.length)}:Cl).cw+I5 l<=w.cw+1:=by
  have I:=Ms l
  split
  ·omega
  have J:=Y6 (w:=w) (fl:=w.OM.eraseIdx (at_ % w.OM.length));have M:=JR _ _ _ h;omega
 dsimp only
 split
 ·exact gB Tv h1.2
 exact DL h1.1
def Mt(hn:n<5)(h:tX x<=tX (w.aj n)):(w.put n x).cw<=w.cw:=
 ZL (d:=0) hn (λj I=>Ox I) (by rw[Ao];unfold Cl.nm;omega)
def au6(h:∀j,j<5->tX (m'.aj j)=tX (m.aj j))(I:m'.OM=m.OM):m'.cw=m.cw:=by
 unfold Cl.cw;rw[I,h 0 dQ,h 1 dQ,h 2 dQ,h 3 dQ,h 4 dQ]
def Tw:(w.aC n q b).cw=w.cw:=au6 (λj _=>by
 by_cases e:j=n
 ·subst e;rw[show(w.aC j q b).aj j={w.aj j with bs:=PN (w.aj j).bs q b}from Jo _ _ _];rfl
 rw[show(w.aC n q b).aj j=w.aj j from Ox e]) E
def Tx:(w.Ug n q op a num).cw=w.cw:=rfl
def I6{Jp:List Ev}{an:List kE}:∀(ls:List Nat) {w:Cl},(w.recovered n q Jp an ls).cw=w.cw
 |[],_=>rfl
 |i::r,w=>by
  unfold Cl.recovered;rw[I6 r,Tx]
def abn:(w.recover n q).cw=w.cw:=by
 unfold Cl.recover
 split
 ·exact Tx
 exact I6 _
def Ia{bs:Nat->bC}:∀(ls:List Nat) {w:Cl},(Cl.TY n bs ls w).cw=w.cw
 |[],_=>rfl
 |q::r,w=>by
  unfold Cl.TY
  split
  ·exact Ia r
  rw[Ia r,Tx,Tw,abn]
def au7{T S eZ K:Nat}(I:dW m T S eZ K)(J:Es ac):(m.Ub ac).cw<=m.cw+1:=by
 obtain⟨a1,a2,a3,a4,a5,a6⟩:=J;have hn:ac.nd.toNat<5:=Y;unfold Cl.Ub
 split
 ·unfold Cl.make
  split
  ·omega
  split
  ·omega
  split
  ·omega
  rename_i x h
  have hi:=RJ h;have M:x.OO=(m.aj ac.nd.toNat).OO:=by
   unfold Nd.write at h;obtain⟨d,_,rfl⟩:=Dn.1 h;rfl
  have h1:=Mt (w:=m) (n:=ac.nd.toNat) (x:={x with OY:=x.data.length,bs:=PN x.bs ac.qu.toNat (jX ((m.aj ac.nd.toNat).bs ac.qu.toNat) 1).1}) hn (by unfold tX;rw[<-hi,<-M];exact aB);exact DL h1
 split
 ·show qL (m.OM++[xB ac.nd ac.qu.toNat ac.op m.calls])+(tX (m.aj 0)+(tX (m.aj 1)+(tX (m.aj 2)+(tX (m.aj 3)+tX (m.aj 4)))))<=m.cw+1
  have O:=Ms (xB ac.nd ac.qu.toNat ac.op m.calls);rw[wz,Gy];unfold Cl.cw;omega
 split
 ·exact aoj I hn
 split
 ·exact acO
 split
 ·exact DL ah1
 split
 ·unfold Cl.UZ
  split
  ·exact DL (Mt hn (aG _))
  omega
 split
 ·unfold Cl.start
  split
  ·omega
  split
  ·omega
  rw[Ia];exact DL (Mt hn (aG _))
 unfold Cl.move
 split
 ·omega
 split
 ·rw[Tw];omega
 omega
def ah2:∀(l:List Ac) {m:Cl} {k:Nat},Bs m k->(∀a∈l,Es a)->k+l.length<=100000->(m.run l).cw<=m.cw+l.length
 |[],_,_,_,_,_=>aB
 |a::l,m,k,h,I,J=>by
  rw[mV]at J⊢;have h1:=I a gJ;have O:=au7 h h1;have Z:=ah2 l (m:=m.Ub a) (IZ h h1 Y) (λx M=>I x (dM _ M)) Y
  show((m.Ub a).run l).cw<=_
  omega
structure Vd (m:Cl):Prop where
 rol:∀n,n<5-> ∀q,2<=q->q<4->(vw m q n).F9=0
 nQ:∀n,n<5-> ∀p,(m.aj n).OO=some p->p.q<2
 jk:∀n,n<5-> ∀l∈(m.aj n).Mv,l.q<2
 OM:∀l∈m.OM,l.q<2
def Vd.at_(h:Vd m)(hn:m'.aj=PN m.aj n X)(Z:∀q,2<=q->q<4->(X.view q).F9=0)(hp:∀p,X.OO=some p->p.q<2)(hi:∀l∈X.Mv,l.q<2)(hf:∀l∈m'.OM,l∈m.OM\/l.q<2):Vd m':=by
 refine⟨λj M q h1 O=>?_,λj M p I=>?_,λj M l J=>?_,λl J=>(hf l J).elim (h.OM l) id⟩
 ·rw[wR hn];by_cases e:j=n
  ·subst e;rw[Jo];exact Z q h1 O
  rw[Ox e];exact h.rol j M q h1 O
 ·rw[hn]at I;by_cases e:j=n
  ·subst e;rw[Jo]at I;exact hp p I
  rw[Ox e]at I;exact h.nQ j M p I
 rw[hn]at J;by_cases e:j=n
 ·subst e;rw[Jo]at J;exact hi l J
 rw[Ox e]at J;exact h.jk j M l J
def Vd.aj(h:Vd m)(hn:m'.aj=m.aj)(O:∀l∈m'.OM,l∈m.OM\/l.q<2):Vd m':=by
 have e:∀q j,vw m' q j=vw m q j:=λq j=>by unfold vw;rw[hn]
 exact⟨λj I q h1 Z=>by rw[e];exact h.rol j I q h1 Z,λj I p J=>h.nQ j I p (by rwa [hn]at J),λj I l M=>h.jk j I l (by rwa [hn]at M),λl M=>(O l M).elim (h.OM l) id⟩
def sM{fl:List bO}{x:bO}(I:x.q<2):∀l∈fl++[x],l∈fl\/l.q<2:=λl h=>by
 rcases aP.1 h with h|h
 ·exact .inl h
 rw[aF]at h;subst h;exact .inr I
def WQ{b:bC}{a:Int}{fl:List bO}(I:q<2):∀l∈lI n q b a fl,l∈fl\/l.q<2:=λl h=>by
 unfold lI at h
 split at h
 ·exact .inl h
 exact sM (x:=IV n q b a) I l h
def Vd.view(h:Vd m)(hn:n<5)(I:(m.aj n).up=true){q:Nat}(h1:2<=q)(J:q<4):((m.aj n).bs q).F9=0:=by
 have:=h.rol n hn q h1 J;rwa [iC I]at this
def ah4(h:Vd m)(hn:n<5)(J:(m.aj n).up=true)(hp:(m.aj n).OO=none)(hq:l.q<2)(H:Hnd m n l m'):Vd m':=by
 cases H with
 |same=>exact h
 |done a h1 h2=>
  unfold Cl.done
  split
  ·exact h.aj E (sM (x:=mg n l.num a nowhere) (by show 0<2;omega))
  exact h.aj E (sM (x:=mg n l.num a ((m.aj n).PS l.q)) (by show 0<2;omega))
 |TV h1=>exact h.aj E (sM (x:=ou n l.q ((m.aj n).bs l.q)) hq)
 |part b h1 h2 h3 h4 h5 h6=>
  obtain⟨g1,g2,g3⟩:=oP (m:=m.aC n l.q b) (n:=n) (q:=l.q) (a:=l.at_);have M:((m.aC n l.q b).part n l.q l.at_).aj=PN m.aj n ((m.aj n).aC l.q b):=g2;refine h.at_ M (λq O Z=>?_) (h.nQ n hn) (h.jk n hn) (λx I=>?_)
  ·rw[fZ (X:=(m.aj n).aC l.q b) J];rw[show((m.aj n).aC l.q b).bs q=(m.aj n).bs q from Ox Y];exact h.view hn J O Z
  rw[g3]at I;exact WQ hq x I
 |OO p cO d h1 h2 h3 h4 h5=>
  have hY:cO.bs=(m.aj n).bs/\cO.up=(m.aj n).up/\cO.Mv=(m.aj n).Mv:=by rcases h1 with h1|⟨_,h1⟩<;>rw[h1]<;>exact⟨E,E,E⟩
  refine h.at_ (n:=n) (X:={cO with data:=d,OO:=some p}) E (λq O Z=>?_) (λp' hp'=>?_) (λx I=>h.jk n hn x (by rw[<-hY.2.2];exact I)) (λx I=>.inl I)
  ·rw[fZ (X:={cO with data:=d,OO:=some p}) (hY.2.1.trans J)]
   show(cO.bs q).F9=0
   rw[hY.1];exact h.view hn J O Z
  cases hp';rw[h2];exact hq
 |Qf h1=>
  refine h.at_ (n:=n) (X:=(m.aj n).Qf n l) E (λq O Z=>?_) (h.nQ n hn) (h.jk n hn) (λx I=>.inl I);rw[fZ (X:=(m.aj n).Qf n l) J];exact h.view hn J O Z
def afJ{b:bC}{s:Bool}(h:q<2\/b.F9=0):∀l∈ig n q b s,l.q<2:=λl I=>by
 unfold ig at I
 rcases h with h|h
 ·rcases aP.1 I with I|I
  ·rcases aP.1 I with I|I
   ·split at I
    ·rw[aF]at I;subst I;exact h
    simp at I
   split at I
   ·rw[aF]at I;subst I;exact h
   simp at I
  split at I
  ·rw[aF]at I;subst I;exact h
  simp at I
 rw[ah Y,ah Y,ah Y]at I;simp at I
def Tz(h:Vd m)(hn:n<5)(J:(m.aj n).up=true):Vd (m.lu n):=by
 refine h.at_ (n:=n) (X:={m.aj n with turn:=(m.aj n).turn+1}) E (λq M O=>?_) (h.nQ n hn) (h.jk n hn) (λx I=>?_)
 ·rw[fZ (X:={m.aj n with turn:=(m.aj n).turn+1}) J];exact h.view hn J M O
 rcases aP.1 I with I|I
 ·exact .inl I
 refine .inr (afJ ?_ x I);by_cases c:(m.aj n).turn % 4<2
 ·exact .inl c
 exact .inr (h.view hn J Y (mod_lt _ dQ))
def acP{T S eZ K:Nat}(h:Vd m)(hB:dW m T S eZ K)(hn:n<5):Vd (m.step n):=by
 cases I:(m.aj n).up with
 |false=>rw[oN I];exact h
 |true=>
  obtain⟨rs,us,hU⟩:=(hB.jH n hn).uH I
  cases M:(m.aj n).OO with
  |some p=>
   obtain⟨_,h2,h3⟩:=hU.FI p M;have hq:=h.nQ n hn p M;obtain⟨X,hX⟩:∃X,m.aj n=X:=⟨_,E⟩;have J:∀ {m':Cl} {cO:Nd},m'.aj=PN m.aj n cO->cO.bs=PN (m.aj n).bs p.q (p.b (m.aj n).bs)->cO.up=true->cO.OO=none->cO.Mv=(m.aj n).Mv->(∀l∈m'.OM,l∈m.OM\/l.q<2)->Vd m':=by
    intro m' cO e1 e2 e3 e4 e5 e6;refine h.at_ e1 (λq h7 h8=>?_) (λp' Z=>by rw[e4]at Z;cases Z) (λx hx=>h.jk n hn x (by rw[<-e5];exact hx)) e6;rw[fZ e3,e2,Ox Y];exact h.view hn I h7 h8
   cases p with
   |serve k Jp op num a=>
    rw[jS E I M E h2.1];exact J (cO:=(m.aj n).kV.aC k { (m.aj n).bs k with Jp:=Jp}) E E I E E (sM (by show 0<2;omega))
   |P8 k b=>
    rw[ng E I M];exact J (cO:=(m.aj n).kV.aC k b) E E I E E (sM (x:=ou n k b) hq)
   |T9 k b last=>
    cases last with
    |true=>
     rw[jP E I M];exact J (cO:={ ((m.aj n).kV.aC k b)with PZ:=PN (m.aj n).PZ k false}) E E I E E (λl hl=>.inl hl)
    |false=>
     rw[qZ E I M];exact J (cO:=(m.aj n).kV.aC k b) E E I E E (sM (x:=ou n k b) hq)
   |gy k b at_=>
    rw[oO E I M];exact J (cO:=(m.aj n).kV.aC k b) E E I E E (WQ (q:=k) hq)
   |P5 k b=>
    rw[lK E I M];exact J (cO:=(m.aj n).kV.aC k b) E E I E E (λl hl=>.inl hl)
  |none=>
   have P:=og (n:=n) (λw=>Kt m n rs w/\Vd w) (λw l r ⟨H,A⟩ hp1 O=>by
    obtain⟨h1,h2,h3,h4⟩:=oh (λl hl=>lM (hB.jk n hn l hl)) H hp1 O;refine⟨h1.1,h4,?_⟩;have A2:Vd (w.put n ((w.aj n).box r)):=A.at_ (n:=n) (X:=(w.aj n).box r) E (λq h7 h8=>A.rol n hn q h7 h8) (A.nQ n hn) (λx hx=>A.jk n hn x (by rw[O];exact dM _ hx)) (λx hx=>.inl hx);exact ah4 A2 hn (by rw[aY];exact H.up) (by rw[aY];exact hp1) (A.jk n hn l (by rw[O];simp)) h3) _ m E ⟨zx I ⟨_,hU⟩,h⟩
   rw[jy I M]
   split
   ·exact Tz P.2 hn P.1.up
   exact P.2
def acQ(h:Vd m)(M:jY l)(J:l.q<2):Vd (m.P6 l):=by
 obtain⟨_,_,h1,_⟩:=id M;unfold Cl.P6
 split
 ·exact h.aj E λx I=>.inl I
 split
 ·split
  ·exact h.aj E (sM (x:=mE l.fr l.q _) J)
  exact h.aj E λx I=>.inl I
 split
 ·have hn:l.tg.toNat<5:=Y;refine h.at_ (n:=l.tg.toNat) (X:={m.aj l.tg.toNat with Mv:=(m.aj l.tg.toNat).Mv++[l]}) E (λq O Z=>h.rol _ hn q O Z) (h.nQ _ hn) (λx I=>?_) (λx I=>.inl I);exact(sM J x I).elim (h.jk _ hn x) id
 exact h
def WR:∀(ls:List bO) {m:Cl},Vd m->(∀l∈ls,jY l)->(∀l∈ls,l.q<2)->Vd (ls.foldl Cl.P6 m)
 |[],_,h,_,_=>h
 |l::ls,m,h,J,M=>WR ls (acQ h (J l iQ) (M l iQ)) (λx I=>J x (by simp[I])) λx I=>M x (by simp[I])
def RO(h:Vd m)(I:∀l∈m.OM,jY l):Vd m.all:=
 WR m.OM (m:={m with OM:=[]}) (h.aj E λx J=>by cases J) I h.OM
def aok{at_:Nat}{c s:Bool}(h:Vd m)(O:∀l∈m.OM,jY l):Vd (m.pick at_ c s):=by
 unfold Cl.pick
 split
 ·exact h
 rename_i l I
 have J:=jN I;have M:Vd (if s=true then m else{m with OM:=m.OM.eraseIdx (at_ % m.OM.length)}):=by
  split
  ·exact h
  exact h.aj E λx Z=>.inl (Lp Z)
 dsimp only
 split
 ·exact acQ M (O l J) (h.OM l J)
 exact M
def acR{tg:Int}(h:Vd m)(hq:q<2):Vd (m.move q tg):=by
 unfold Cl.move
 split
 ·exact h
 rename_i I
 split
 ·obtain⟨hn,_,_⟩:=qm (d:=m.off) (q:=q) (λe=>I (.inl e));generalize (aN m.off q).1.node.toNat=n at*;have J:(m.aj n).up=true:=by
   cases e:(m.aj n).up with
   |true=>rfl
   |false=>exact av (.inr (.inr e)) I
  refine h.at_ (n:=n) (X:=(m.aj n).aC q (vQ ((m.aj n).bs q) tg).1) E (λk M O=>?_) (h.nQ n hn) (h.jk n hn) (λx Z=>.inl Z);rw[fZ (X:=(m.aj n).aC q _) J,show((m.aj n).aC q (vQ ((m.aj n).bs q) tg).1).bs k=(m.aj n).bs k from Ox Y];exact h.view hn J M O
 exact h
end
def aAi:Vd nL:=by
 have I:∀n,nL.aj n=nd0\/nL.aj n=nK 0\/nL.aj n=nK 1:=λn=>by
  have e:nL.aj n=PN (PN lT.aj 0 (nK 0)) 1 (nK 1) n:=rfl;rw[e];by_cases c1:n=1
  ·rw[c1,Jo];exact .inr (.inr E)
  by_cases c0:n=0
  ·rw[Ox c1,c0,Jo];exact .inr (.inl E)
  rw[Ox c1,Ox c0];exact .inl E
 refine⟨λn hn q h1 M=>?_,λn hn p J=>?_,λn hn l h=>?_,λl h=>by cases h⟩
 ·unfold vw
  rcases I n with e|e|e<;>rw[e]
  ·rw[fZ E];rfl
  ·rw[fZ E];show(PN (λ_=>bX) 0 _ q).F9=0;rw[Ox Y];rfl
  rw[fZ E];show(PN (λ_=>bX) 1 _ q).F9=0;rw[Ox Y];rfl
 ·rcases I n with e|e|e<;>rw[e]at J<;>cases J
 rcases I n with e|e|e<;>rw[e]at h<;>cases h
def eB(f:bO->Nat):List bO->Nat
 |[]=>0
 |l::r=>f l+eB f r
def Cl.ws(f:bO->Nat)(m:Cl):Nat:=eB f m.OM+(eB f (m.aj 0).Mv+(eB f (m.aj 1).Mv+(eB f (m.aj 2).Mv+(eB f (m.aj 3).Mv+eB f (m.aj 4).Mv))))
structure Wy where
 M:Nat
 own:Nat->Nat
 R:Nat
 tg:Int
def calm(F:Wy)(l:bO):Prop:=(1<=l.ep/\l.ep<=F.M/\l.tg=F.own l.ep.toNat)\/(l.ep=F.M+1/\F.R=1/\l.tg=F.tg)
instance (F:Wy)(l:bO):Decidable (calm F l):=by unfold calm;exact inferInstance
def tJ(F:Nat->Wy)(l:bO):Nat:=if l.kd=0 then 46 else if l.kd=4/\ ¬calm (F l.q) l then 184 else 0
def RP(r:Int):Nat:=if r=2 then 2 else if r=3 then 1 else 0
def WS(F:Wy)(j:Nat)(b:bC):Nat:=if F.R=1/\(j:Int)=F.tg then 46*(302-if b.ep=F.M+1 then b.Jp.length else 0)else 0
def fi(F:Wy)(j:Nat)(b:bC):Nat:=46*((F.M:Int)+1+F.R-b.ep).toNat+46*RP b.F9+WS F j b
def qw(X:Nd)(q:Nat):bC:=match X.OO with
 |some p=>if p.q=q then p.b X.bs else X.bs q
 |none=>X.bs q
noncomputable def Ap(m:Cl)(q:Nat)(g:Gh):Wy:=⟨g.m,g.own,if (vw m q g.o).F9=1 then 0 else 1,(vw m q g.o).tg⟩
def nu(F F':Wy):Prop:=(F'.M=F.M/\(∀k,k<=F.M->F'.own k=F.own k)/\F'.R=F.R/\F'.tg=F.tg)\/
 (F'.M=F.M+1/\(∀k,k<=F.M->F'.own k=F.own k)/\(F'.own (F.M+1):Int)=F.tg/\F.R=1/\F'.R=0)
section
variable {m w m':Cl}{n q:Nat}{X X':Nd}{l:bO}{p:dh}{f f':bO->Nat}{F F':Wy}{g g':Gh}{b b':bC}
def nu.refl(F:Wy):nu F F:=.inl ⟨E,λ_ _=>E,E,E⟩
def nu.clm(h:nu F F')(I:calm F l):calm F' l:=by
 unfold calm at I⊢
 rcases h with⟨h1,J,O,Z⟩|⟨h1,J,O,Z,h5⟩
 ·rcases I with⟨a,b,c⟩|⟨a,b,c⟩
  ·exact .inl ⟨a,by omega,by rw[J _ Y];exact c⟩
  exact .inr ⟨by omega,by omega,by rw[Z];exact c⟩
 rcases I with⟨a,b,c⟩|⟨a,b,c⟩
 ·exact .inl ⟨a,by omega,by rw[J _ Y];exact c⟩
 refine .inl ⟨by omega,by omega,?_⟩;rw[show l.ep.toNat=F.M+1 by omega,O];exact c
def nu.fi_(h:nu F F'):fi F' n b<=fi F n b:=by
 unfold fi WS
 rcases h with⟨h1,O,I,J⟩|⟨h1,O,I,J,Z⟩
 ·rw[h1,I,J];exact aB
 rw[ah (λh=>by omega:¬(F'.R=1/\(n:Int)=F'.tg))];have:((F'.M:Int)+1+F'.R-b.ep).toNat=((F.M:Int)+1+F.R-b.ep).toNat:=Y;rw[this];omega
def nu.lw{F F':Nat->Wy}(h:nu (F l.q) (F' l.q)):tJ F' l<=tJ F l:=by
 unfold tJ
 split
 ·exact aB
 split
 ·rename_i h1 I
  rw[au ⟨I.1,λc=>I.2 (h.clm c)⟩];exact aB
 exact aG _
def vo:∀(a b:List bO),eB f (a++b)=eB f a+eB f b
 |[],b=>by simp[eB]
 |l::a,b=>by rw[vW,eB,eB,vo a b];omega
def Ib:eB f [l]=f l:=rfl
def wD:∀ {a:List bO},(∀l∈a,f' l<=f l)->eB f' a<=eB f a
 |[],_=>aB
 |l::a,h=>by
  have h1:=h l gJ;have J:=wD (a:=a) λx I=>h x (dM _ I);rw[eB,eB];omega
def Pk(h1:∀l∈m.OM,f' l<=f l)(I:∀n,n<5-> ∀l∈(m.aj n).Mv,f' l<=f l):m.ws f'<=m.ws f:=by
 have h:=wD h1;have J:=wD (I 0 dQ);have M:=wD (I 1 dQ);have O:=wD (I 2 dQ);have Z:=wD (I 3 dQ);have i4:=wD (I 4 dQ);unfold Cl.ws;omega
def KE{d:Nat}(hn:n<5)(I:∀j,j≠n->(m'.aj j).Mv=(m.aj j).Mv)(h:eB f m'.OM+eB f (m'.aj n).Mv+d<=eB f m.OM+eB f (m.aj n).Mv):m'.ws f+d<=m.ws f:=by
 unfold Cl.ws
 rcases five hn with rfl|rfl|rfl|rfl|rfl
 ·rw[I 1 dQ,I 2 dQ,I 3 dQ,I 4 dQ];omega
 ·rw[I 0 dQ,I 2 dQ,I 3 dQ,I 4 dQ];omega
 ·rw[I 0 dQ,I 1 dQ,I 3 dQ,I 4 dQ];omega
 ·rw[I 0 dQ,I 1 dQ,I 2 dQ,I 4 dQ];omega
 rw[I 0 dQ,I 1 dQ,I 2 dQ,I 3 dQ];omega
def acT(h:∀x:bO,x.kd=6->f x=0)(I:jY l):(w.P6 l).ws f<=w.ws f+f l:=by
 unfold Cl.P6
 split
 ·show w.ws f<=_;omega
 split
 ·split
  ·unfold Cl.ws
   show eB f (w.OM++[_])+_<=_
   rw[vo,Ib,h _ E];dsimp only;omega
  show w.ws f<=_;omega
 split
 ·obtain⟨_,_,h1,_⟩:=id I;have J:l.tg.toNat<5:=Y;have:=KE (m:={w with OM:=w.OM++[l]}) (m':=w.put l.tg.toNat {w.aj l.tg.toNat with Mv:=(w.aj l.tg.toNat).Mv++[l]}) (f:=f) (d:=0) J (λj M=>by
   show(PN w.aj _ _ j).Mv=_
   rw[Ox M]) (by
   rw[aY]
   show eB f w.OM+eB f ((w.aj l.tg.toNat).Mv++[l])+0<=eB f (w.OM++[l])+eB f (w.aj l.tg.toNat).Mv
   rw[vo,vo];omega)
  have e:({w with OM:=w.OM++[l]}:Cl).ws f=w.ws f+f l:=by
   unfold Cl.ws;dsimp only;rw[vo,Ib];omega
  omega
 omega
def WT(h:∀x:bO,x.kd=6->f x=0):∀(ls:List bO) {w:Cl},(∀l∈ls,jY l)->(ls.foldl Cl.P6 w).ws f<=w.ws f+eB f ls
 |[],w,_=>aB
 |l::r,w,I=>by
  have h1:=WT h r (w:=w.P6 l) λx J=>I x (dM _ J);have M:=acT (w:=w) h (I l gJ);rw[qX,eB];omega
def ET(h:∀x:bO,x.kd=6->f x=0)(I:∀l∈m.OM,jY l):m.all.ws f<=m.ws f:=by
 have h1:=WT h m.OM (w:={m with OM:=[]}) I;have J:({m with OM:=[]}:Cl).ws f+eB f m.OM=m.ws f:=by unfold Cl.ws;dsimp only[eB];omega
 unfold Cl.all;omega
def aAj{F:Nat->Wy}(x:bO)(h:x.kd=6):tJ F x=0:=by
 unfold tJ;rw[ah Y,ah (λc=>by omega)]
def agP{F:Nat->Wy}{x:bO}(I:x.kd≠0)(h:x.kd=4->calm (F x.q) x):tJ F x=0:=by
 unfold tJ;rw[ah I,ah (λc=>c.2 (h c.1))]
def au8{F:Nat->Wy}:tJ F l<=184*I5 l:=by
 unfold tJ I5
 split
 ·rename_i h;rw[au (.inl h)];decide
 split
 ·rename_i h;rw[au (.inr (.inr (.inr h.1)))];decide
 exact aG _
def aAk{F:Nat->Wy}:m.ws (tJ F)<=184*m.cw:=by
 have h:∀a:List bO,eB (tJ F) a<=184*qL a:=by
  intro a
  induction a with
  |nil=>exact aG _
  |cons l r I=>
   have:=au8 (l:=l) (F:=F);rw[eB,qL];omega
 have J:=h m.OM;have M:=h (m.aj 0).Mv;have O:=h (m.aj 1).Mv;have Z:=h (m.aj 2).Mv;have i3:=h (m.aj 3).Mv;have i4:=h (m.aj 4).Mv;unfold Cl.ws Cl.cw tX;omega
def jV(h:X.OO=none):qw X q=X.bs q:=by unfold qw;rw[h]
def q8(h:X.OO=some p)(I:p.q=q):qw X q=p.b X.bs:=by unfold qw;rw[h];exact au I
def Aq(h:X.OO=some p)(I:p.q≠q):qw X q=X.bs q:=by unfold qw;rw[h];exact ah I
def I7{r:Int}(h:r=0\/r=4\/r=1):RP r=0:=by unfold RP;rw[ah Y,ah Y]
def acU(h:RP b'.F9=RP b.F9)(he:b'.ep=b.ep)(hv:b.Jp.length<=b'.Jp.length):fi F n b'<=fi F n b:=by
 unfold fi WS;rw[h,he]
 split
 ·split<;>omega
 exact iR _
def aol(h:b'.F9=b.F9)(he:b'.ep=b.ep)(hv:b'.Jp=b.Jp):fi F n b'=fi F n b:=by
 unfold fi WS;rw[h,he,hv]
def ajR{V:Nat->bC}{P:Nat->Option dh}{U:Nat->Bool}{Lt:bO->Prop}{pl:Pl}{sh:Nat->Int×Int}{sv:List l9}{bs:Nat->bC}{FF:Nat->Wy}(I:TU g V P U Lt pl sh sv)(hn:n<5)(J:V n=bs l.q)(h:p.q=l.q)(hp:p.ok bs)(hS:Src (bs l.q) l p)(hk:Gq g V n p)
  (Bd:l.tg=n) (hl3:l.Jp.length<=3) (hG:g.G.length<=300) (hM:(FF l.q).M=g.m) (ho:(FF l.q).own=g.own):46*(p.rs bs).length+fi (FF l.q) n (p.b bs)<=tJ FF l+fi (FF l.q) n (bs l.q):=by
 have hlen:=acI h hp hS hl3
 cases p with
 |serve k Jp op num a=>
  have e:k=l.q:=h;subst e;obtain⟨s1,_⟩:=hS;obtain⟨_,O,_⟩:=hp;have h1:fi (FF l.q) n ((dh.serve l.q Jp op num a).b bs)<=fi (FF l.q) n (bs l.q):=acU E E (by show _<=Jp.length;rw[O,aZ];omega);have h3:tJ FF l=46:=au s1;have Z:((dh.serve l.q Jp op num a).rs bs).length=1:=rfl;omega
 |P8 k x=>
  have e:k=l.q:=h;subst e;obtain⟨j,j1,j2,j3,j4,j5⟩:=hk;rw[J]at j4 j5;have Z:((dh.P8 l.q x).rs bs).length=1:=rfl;have hx:(dh.P8 l.q x).b bs=x:=rfl;rw[Z,hx,j1];unfold fi WS;dsimp only;rw[I7 (r:=(4:Int)) Y,I7 (r:=(bs l.q).F9) Y,hM];by_cases c:(FF l.q).R=1/\(n:Int)=(FF l.q).tg
  ·rw[au c,au c,ah (by omega:¬(bs l.q).ep=(g.m:Int)+1)]
   split
   ·rw[length_nil];omega
   omega
  rw[ah c,ah c];omega
 |T9 k x last=>
  have e:k=l.q:=h;subst e;obtain⟨es,g1,g2,g3,g4,g5,g6,g7⟩:=xG hp;obtain⟨s1,s2,s3,s4,s5,s6,s7,s8,s9⟩:=hS;obtain⟨k1,k2,k3⟩:=hk;rw[J]at k1;have hrs:((dh.T9 l.q x last).rs bs).length=x.Jp.length-(bs l.q).Jp.length:=by
   rw[g7,aZ,iE,dO]
   cases last with
   |true=>simp only[if_true,length_singleton]at*;omega
   |false=>simp only[Bool.false_eq_true,if_false,length_nil]at*;omega
  have hxl:(bs l.q).Jp.length<=x.Jp.length:=Y;have hxr:x.F9=4\/x.F9=1:=by
   cases last with
   |true=>obtain⟨_,_,_,a4,_⟩:=k3 E;rw[a4];exact .inr E
   |false=>obtain⟨j,a1,_⟩:=k2 E;rw[a1];exact .inl (by show(V n).F9=4;rw[J];exact k1)
  have hxG:x.Jp.length<=301:=by
   cases last with
   |true=>obtain⟨_,_,_,a4,_⟩:=k3 E;rw[a4];show(g.G++[bg]).length<=301;rw[aZ,l8];omega
   |false=>obtain⟨j,a1,_⟩:=k2 E;rw[a1];show(g.G.take j).length<=301;rw[eD];omega
  have hb:(dh.T9 l.q x last).b bs=x:=rfl;rw[hrs]at hlen;rw[hrs,hb];by_cases c:calm (FF l.q) l
  ·rcases c with⟨c1,c2,c3⟩|⟨c1,c2,c3⟩
   ·exfalso
    have PX:n≠g.o:=I.rW (.inr (by rw[J];exact k1));rw[hM]at c2;rw[ho,Bd]at c3
    rcases I.oM n hn PX with⟨h5,_⟩|⟨_,h5,_⟩|⟨k',_,O,h3,Z,_,_,_,h8⟩
    ·rw[J]at h5;omega
    ·rw[J]at h5;omega
    rw[J]at O;rw[show l.ep.toNat=k'+1 by omega]at c3;exact h8 Y Y
   rw[Bd]at c3;have hc:(FF l.q).R=1/\(n:Int)=(FF l.q).tg:=⟨c2,c3⟩;have he:(bs l.q).ep=((FF l.q).M:Int)+1:=by rw[s3];exact c1
   unfold fi WS;rw[I7 (r:=x.F9) Y,I7 (r:=(bs l.q).F9) Y,g6];simp only[if_pos hc,if_pos he];omega
  have h3:tJ FF l=184:=by
   unfold tJ;rw[ah Y,au ⟨s1,c⟩]
  have h1:fi (FF l.q) n x<=fi (FF l.q) n (bs l.q):=acU (by rw[I7 (r:=x.F9) Y,I7 (r:=(bs l.q).F9) Y]) g6 hxl;omega
 |gy k x a=>
  have e:k=l.q:=h;subst e;obtain⟨h1,O⟩:=hp;have Z:((dh.gy l.q x a).rs bs).length=1:=rfl;have hb:(dh.gy l.q x a).b bs=x:=rfl;rw[Z,hb,O];unfold fi WS;dsimp only;rw[show RP (3:Int)=1 from E,h1,show RP (2:Int)=2 from E];omega
 |P5 k x=>
  have e:k=l.q:=h;subst e;obtain⟨h1,O⟩:=hp;obtain⟨_,_,k3⟩:=hk;rw[J]at k3;have Z:((dh.P5 l.q x).rs bs).length=1:=rfl;have hb:(dh.P5 l.q x).b bs=x:=rfl;rw[Z,hb,O];unfold fi WS;dsimp only;have hne:¬(bs l.q).ep=(g.m:Int)+1:=Y;rw[show RP (0:Int)=0 from E,h1,show RP (3:Int)=1 from E,hM];simp only[if_neg hne];omega
end
end Go.Proofs.YtefabpdniidmbaaGreatDoor
