import Derived.Test.YtcomidffhiilcaaGreatDoorG713ea
import Derived.Test.YtcomidffhiilcaaGreatDoorG8fc3d
import Derived.Test.YtcomidffhiilcaaGreatDoorGc0648
set_option maxRecDepth 100000
set_option maxHeartbeats 8000000
set_option linter.unusedSimpArgs false
set_option linter.unusedVariables false
namespace Go.Proofs.YtcomidffhiilcaaGreatDoor
open ChangeShapes WideShapes RowKit
def Az:List (Int×Int):=[(1,0),(3,0),(4,0),(5,0),(6,0),(7,0),(8,0),(9,0),(10,0),(2,1),(2,2),(2,3)]
def sH:List (Int×Int):=(List.range 10).flatMap λ(k:Nat)=>(List.range 4).map λ(e:Nat)=>((k:Int)+1,(e:Int))
def mF (p:Int×Int):Ac:=⟨p.1,0,0,0,0,p.2,0,0,0,0,0⟩
def wE (p:Int×Int):List UInt8:=(bJ p.1 p.2).data.toList
def al2 (u:List UInt8) (p:Int×Int):Bool:=decide (wE p=u)
def tu (u:List UInt8) (p:Int×Int):Bool:=(aW p.1 p.2).isSome&&decide (wE p=u)&&(decide (p.1=2) || decide (p.2=0))
def Nn (c:List Int):Ac:=⟨c.getD 0 0,c.getD 1 0,c.getD 2 0,c.getD 3 0,c.getD 4 0,c.getD 5 0,c.getD 6 0,c.getD 7 0,c.getD 8 0,c.getD 9 0,c.getD 10 0⟩
def vV (c:List Int) (l:List (Nat×Int)) (vs:List Int):List Int:=(l.zip vs).foldl (λc q=>c.set q.1.1 q.2) c
def PG (p:Int×Int) (l:List (Nat×Int)) (vs:List Int):Ac:=Nn (vV (mF p).ints l vs)
def pY (s:List UInt8):Option Ac:=match Az.find? (al2 ((eu [] s).headD [])) with
 | none=>none
 | some p=>match aW p.1 p.2 with
  | none=>none
  | some l=>if (eu [] s).length≠l.length+1 then none
   else if aN (PG p l ((eu [] s).tail.map rM))=0 then some (PG p l ((eu [] s).tail.map rM)) else none
def sI (u:List UInt8):Int×Int:=(sH.find? (tu u)).getD (0,0)
def AA (ws:List (List UInt8)):Ac:=match aW (sI (ws.headD [])).1 (sI (ws.headD [])).2 with
 | none=>mF (sI (ws.headD []))
 | some l=>PG (sI (ws.headD [])) l (ws.tail.map pK)
theorem JU: ∀ (l:List (Nat×Int)) (vs:List Int) (c:List Int),(vV c l vs).length=c.length
 | [],vs,c=>by simp [vV]
 | p::l,[],c=>by simp [vV]
 | p::l,v::vs,c=>by
  show (vV (c.set p.1 v) l vs).length=_
  rw [JU l vs,List.length_set]
theorem Tf {c:List Int} (h:c.length=11):(Nn c).ints=c:=by
 match c,h with
 | [a,b,d,e,f,g,i,j,k,m,n],_=>rfl
theorem aeV (p:Int×Int) (l:List (Nat×Int)) (vs:List Int):(PG p l vs).ints=vV (mF p).ints l vs:=Tf (by rw [JU];rfl)
theorem aua {α:Type}: ∀ (vs:List α),vs.length<=5->vs=[]\/(∃ a,vs=[a])\/(∃ a b,vs=[a,b])\/(∃ a b c,vs=[a,b,c])\/(∃ a b c d,vs=[a,b,c,d])\/(∃ a b c d e,vs=[a,b,c,d,e])
 | [],_=> .inl rfl
 | [a],_=> .inr (.inl ⟨a,rfl⟩)
 | [a,b],_=> .inr (.inr (.inl ⟨a,b,rfl⟩))
 | [a,b,c],_=> .inr (.inr (.inr (.inl ⟨a,b,c,rfl⟩)))
 | [a,b,c,d],_=> .inr (.inr (.inr (.inr (.inl ⟨a,b,c,d,rfl⟩))))
 | [a,b,c,d,e],_=> .inr (.inr (.inr (.inr (.inr ⟨a,b,c,d,e,rfl⟩))))
 | _::_::_::_::_::_::_,h=>by simp at h
theorem ai5 {p:Int×Int} {l:List (Nat×Int)} {vs:List Int} (h:aW p.1 p.2=some l) (hv:vs.length=l.length):(PG p l vs).kd=p.1/\(PG p l vs).ek=p.2/\l.map (λq=>(PG p l vs).get q.1)=vs:=by
 obtain ⟨kd,ek⟩:=p;have hl5:=zD h
 rcases aua vs (by omega) with rfl | ⟨a,rfl⟩ | ⟨a,b,rfl⟩ | ⟨a,b,c,rfl⟩ | ⟨a,b,c,d,rfl⟩ | ⟨a,b,c,d,e,rfl⟩
 all_goals
  rcases kinds kd ek with rfl | rfl | rfl | rfl | rfl | rfl | rfl | rfl | rfl | ⟨rfl,rfl⟩ | ⟨rfl,rfl⟩ | ⟨rfl,rfl⟩ | hn
  all_goals first
   | (rw [hn] at h;cases h;done)
   | (simp [aW] at h;subst h;first | (simp at hv;done) | simp [PG,vV,Nn,mF,Ac.ints,Ac.get])
theorem Np {x:Ac} (h:aN x=0):x=keep x:=by
 obtain ⟨l,hf⟩:=oV h;have ha:l.all (FL x)=true:=by
  by_cases h2:l.all (FL x)=true
  ·exact h2
  rw [zF hf h2] at h;cases h
 have hfin:fin x l=zeros:=by
  by_cases h2:fin x l=zeros
  ·exact h2
  rw [Ic hf ha h2] at h;cases h
 exact Xz ((QH hf).2 hfin)
theorem Rp {x:Ac} {l:List (Nat×Int)} (h:aN x=0) (hf:aW x.kd x.ek=some l):PG (x.kd,x.ek) l (l.map λq=>x.get q.1)=x:=by
 have hk:=Np h;clear h;obtain ⟨kd,nd,qu,at_,kp,ek,ep,ei,eb,eh,en⟩:=x;dsimp only at hf
 rcases kinds kd ek with rfl | rfl | rfl | rfl | rfl | rfl | rfl | rfl | rfl | ⟨rfl,rfl⟩ | ⟨rfl,rfl⟩ | ⟨rfl,rfl⟩ | hn
 all_goals first
  | (rw [hn] at hf;cases hf;done)
  | (simp [aW] at hf;subst hf;simp [keep] at hk;simp [PG,vV,Nn,mF,Ac.ints,Ac.get,hk])
theorem IK {x:Ac} (h:aN x=0):(x.kd,x.ek)∈Az:=by
 have hk:=Np h;obtain ⟨l,hf⟩:=oV h;clear h;obtain ⟨kd,nd,qu,at_,kp,ek,ep,ei,eb,eh,en⟩:=x;dsimp only at hf⊢
 rcases kinds kd ek with rfl | rfl | rfl | rfl | rfl | rfl | rfl | rfl | rfl | ⟨rfl,rfl⟩ | ⟨rfl,rfl⟩ | ⟨rfl,rfl⟩ | hn
 all_goals first
  | (rw [hn] at hf;cases hf;done)
  | (simp [keep] at hk;simp [Az,hk])
theorem aah {p:Int×Int} (h:p∈Az):Az.find? (al2 (wE p))=some p:=by
 simp only [Az,List.mem_cons,List.mem_nil_iff,or_false] at h
 rcases h with rfl | rfl | rfl | rfl | rfl | rfl | rfl | rfl | rfl | rfl | rfl | rfl<;>rfl
theorem aeW:Az.all (λp=>decide (sI (wE p)=p))=true:=by kernel_rfl
theorem aai {p:Int×Int} (h:p∈Az):sI (wE p)=p:=by simpa using List.all_eq_true.1 aeW p h
theorem Yb {p:Int×Int} (h:p∈Az): ∀ c∈wE p,c≠32/\c≠10:=by
 simp only [Az,List.mem_cons,List.mem_nil_iff,or_false] at h
 rcases h with rfl | rfl | rfl | rfl | rfl | rfl | rfl | rfl | rfl | rfl | rfl | rfl<;>decide
theorem AV (x:Ac) (l:List (Nat×Int)):oU x l=glue (Ph x) (l.map λp=>Lib.itoa (x.get p.1)):=by
 have gen: ∀ (l:List (Nat×Int)) (s:List UInt8),l.foldl (Ht x) s=s++(l.map λp=>Lib.itoa (x.get p.1)).flatMap λv=>32::v:=by
  intro l
  induction l with
  | nil=>intro s;simp
  | cons p l ih=>intro s;rw [List.foldl_cons,ih];simp [Ht]
 exact gen l _
theorem KE {x:Ac} {l:List (Nat×Int)} (h:aN x=0) (hf:aW x.kd x.ek=some l):eu [] (jK x)=wE (x.kd,x.ek)::l.map λp=>Lib.itoa (x.get p.1):=by
 rw [DF hf,AV];refine GV _ _ (λc hc=>(Yb (IK h) c hc).1) λv hv=>?_;obtain ⟨q,hq,rfl⟩:=List.mem_map.1 hv;exact aiQ (yY hf h q hq).1
theorem aaj {x:Ac} (h:aN x=0): ∀ c∈jK x,c≠10:=by
 obtain ⟨l,hf⟩:=oV h;rw [DF hf,AV];intro c hc;unfold glue at hc
 rcases List.mem_append.1 hc with hc | hc
 ·exact (Yb (IK h) c hc).2
 obtain ⟨v,hv,hc⟩:=List.mem_flatMap.1 hc;obtain ⟨q,hq,rfl⟩:=List.mem_map.1 hv
 rcases List.mem_cons.1 hc with rfl | hc
 ·decide
 exact ZE (yY hf h q hq).1 c hc
theorem map_id {α:Type} {f:α->α}: ∀ {l:List α},(∀ x∈l,f x=x)->l.map f=l
 | [],_=>rfl
 | x::l,h=>by rw [List.map_cons,h x (List.mem_cons_self ..),map_id λy hy=>h y (List.mem_cons_of_mem _ hy)]
theorem aeX {x:Ac} (h:aN x=0):AA (eu [] (jK x))=x:=by
 obtain ⟨l,hf⟩:=oV h;have hv:(l.map λp=>Lib.itoa (x.get p.1)).map pK=l.map λp=>x.get p.1:=by
  rw [List.map_map];refine List.map_congr_left λp hp=>?_;have h1:=yY hf h p hp;have h2:=Im hf p hp;exact ZF h1.1 (by omega)
 rw [KE h hf];unfold AA;simp only [List.headD_cons,aai (IK h),hf,List.tail_cons,hv];exact Rp h hf
theorem aeY {x:Ac} (h:aN x=0):pY (jK x)=some x:=by
 obtain ⟨l,hf⟩:=oV h;have hv:(l.map λp=>Lib.itoa (x.get p.1)).map rM=l.map λp=>x.get p.1:=by
  rw [List.map_map];refine List.map_congr_left λp hp=>?_;have h1:=yY hf h p hp;have h2:=Im hf p hp;exact Wt h1.1 (by omega)
 unfold pY;rw [KE h hf];simp only [List.headD_cons,aah (IK h),hf,List.tail_cons,hv,List.length_cons,List.length_map,ne_eq,not_true_eq_false,if_false];rw [Rp h hf,if_pos h]
theorem aak {s:List UInt8} {x:Ac} (h:pY s=some x):aN x=0/\jK x=s:=by
 unfold pY at h
 split at h
 ·cases h
 rename_i p hp
 split at h
 ·cases h
 rename_i l hf
 split at h
 ·cases h
 rename_i hlen
 split at h
 ·rename_i h0
  have hx:=Option.some.inj h
  rcases hw:eu [] s with _ | ⟨u,ws⟩
  ·exact absurd hw (Bn s [])
  rw [hw] at hp hlen hx h0;simp only [List.headD_cons,List.tail_cons,List.length_cons] at hp hlen hx h0;have hwl:ws.length=l.length:=by omega
  obtain ⟨g1,g2,g3⟩:=ai5 hf (vs:=ws.map rM) (by rw [List.length_map,hwl]);rw [hx] at h0 g1 g2 g3;have hf':aW x.kd x.ek=some l:=by rw [g1,g2];exact hf
  have hu:wE p=u:=by
   have:=List.find?_some hp;simpa [al2] using this
  have hws:(l.map λq=>Lib.itoa (x.get q.1))=ws:=by
   have e:(l.map λq=>Lib.itoa (x.get q.1))=(ws.map rM).map Lib.itoa:=by rw [<-g3,List.map_map];rfl
   rw [e,List.map_map];refine map_id λv hv=>?_;have hm:rM v∈l.map λq=>x.get q.1:=by rw [g3];exact List.mem_map_of_mem hv
   obtain ⟨q,hq,hqv⟩:=List.mem_map.1 hm;exact (aeB (by rw [<-hqv];exact (yY hf' h0 q hq).1)).symm
  refine ⟨h0,?_⟩;have hg:=Di s [] u ws hw;rw [List.nil_append] at hg;rw [DF hf',AV,hws,hg,<-hu];unfold Ph wE;rw [g1,g2]
 cases h
theorem aal {s:List UInt8} {x:Ac} (h:pY s=some x):AA (eu [] s)=x/\aN x=0/\jK x=s:=by
 obtain ⟨h0,h1⟩:=aak h;subst h1;exact ⟨aeX h0,h0,rfl⟩
theorem aam {s:List UInt8} {x:Ac} (h0:aN x=0) (h1:jK x=s):pY s=some x:=by subst h1;exact aeY h0
def gF:List UInt8->List UInt8->List Ac->List Ac×Nat×Int
 | cur,[],l=>if cur=[] then (l,0,0) else if l.length=100000 then ([],100000,14) else ([],l.length,3)
 | cur,c::t,l=>if c=10 then (if l.length=100000 then ([],100000,14) else match pY cur with
   | none=>([],l.length,3)
   | some x=>gF [] t (l++[x])) else gF (cur++[c]) t l
def zh (t:List UInt8):List Ac×Nat×Int:=if 4000000<t.length then ([],0,1) else gF [] t []
theorem F6: ∀ (u cur r:List UInt8) (l:List Ac),(∀ c∈u,c≠10)->gF cur (u++r) l=gF (cur++u) r l
 | [],cur,r,l,_=>by simp
 | c::u,cur,r,l,h=>by
  rw [List.cons_append,gF,if_neg (h c (List.mem_cons_self ..)),F6 u _ r l (λd hd=>h d (List.mem_cons_of_mem _ hd))];simp
theorem Nq {s:List UInt8} {i:Nat} {c:UInt8} (h:s[i]? =some c):s.drop i=c::s.drop (i+1):=by
 obtain ⟨hk,rfl⟩:=List.getElem?_eq_some_iff.1 h;exact List.drop_eq_getElem_cons hk
def Nr (u:List UInt8):List Value:=[str u]
def agn (s:List UInt8) (ws:List (List UInt8)) (f i:Nat):Prop:=(i<=s.length/\f<=i/\eu [] s=ws++eu ((s.drop f).take (i-f)) (s.drop i))\/(i=s.length+1/\f<=i/\eu [] s=ws)
section
variable {s:List UInt8} {ws:List (List UInt8)} {f i:Nat} {c:UInt8}
theorem agn.start:agn s [] 0 0:= .inl ⟨Nat.zero_le _,Nat.le_refl _,by simp⟩
theorem agn.fin (h:agn s ws f i) (hi: ¬ i<=s.length):eu [] s=ws:=by
 rcases h with h | h
 ·exact absurd h.1 hi
 exact h.2.2
theorem aeZ (h:s[i]? =some c) (hf:f<=i):(s.drop f).take (i+1-f)=(s.drop f).take (i-f)++[c]:=by
 rw [show i+1-f=(i-f)+1 by omega,List.take_add_one,List.getElem?_drop,show f+(i-f)=i by omega,h];rfl
end
def Qs (t:List UInt8) (f i:Nat):List UInt8:=(t.drop f).take (i-f)
def RInv (t:List UInt8) (L:List Ac) (f i:Nat):Prop:=(i<=t.length/\f<=i/\gF [] t []=gF (Qs t f i) (t.drop i) L)\/(i=t.length+1/\f<=i/\gF [] t []=(L,0,0))
section
variable {t:List UInt8} {L:List Ac} {f i:Nat} {c:UInt8}
theorem JV:Qs t f f=[]:=by unfold Qs;rw [Nat.sub_self,List.take_zero]
theorem aan (h:t[i]? =some c) (hf:f<=i):Qs t f (i+1)=Qs t f i++[c]:=aeZ h hf
theorem RInv.start:RInv t [] 0 0:= .inl ⟨Nat.zero_le _,Nat.le_refl _,by rw [JV,List.drop_zero]⟩
theorem RInv.fin (h:RInv t L f i) (hi: ¬ i<=t.length):gF [] t []=(L,0,0):=by
 rcases h with h | h
 ·exact absurd h.1 hi
 exact h.2.2
theorem RInv.at (h:RInv t L f i) (hi:i<=t.length):f<=i/\gF [] t []=gF (Qs t f i) (t.drop i) L:=by
 rcases h with h | h
 ·exact h.2
 omega
theorem RInv.skip (h:RInv t L f i) (hc:t[i]? =some c) (hn: ¬ c=10):RInv t L f (i+1):=by
 have hi:i<t.length:=(List.getElem?_eq_some_iff.1 hc).1;obtain ⟨h1,h2⟩:=h.at (by omega);refine .inl ⟨by omega,by omega,?_⟩;rw [h2,Nq hc,gF,if_neg hn,aan hc h1]
theorem RInv.done (h:RInv t L f i) (hi:i=t.length) (hf:f=t.length):RInv t L f (i+1):=by
 obtain ⟨h1,h2⟩:=h.at (by omega);refine .inr ⟨by omega,by omega,?_⟩;rw [h2,hi,hf,JV,List.drop_length,gF,if_pos rfl]
theorem RInv.next {x:Ac} (h:RInv t L f i) (hc:t[i]? =some c) (h10:c=10) (hL: ¬ L.length=100000) (hn:pY (Qs t f i)=some x):RInv t (L++[x]) (i+1) (i+1):=by
 have hi:i<t.length:=(List.getElem?_eq_some_iff.1 hc).1;refine .inl ⟨by omega,Nat.le_refl _,?_⟩;rw [(h.at (by omega)).2,Nq hc,gF,if_pos h10,if_neg hL,hn,JV]
end
theorem aao {t:List UInt8} (h:(4000000:Int)< ((t.length:Nat):Int)):zh t=([],0,1):=if_pos (by omega)
theorem ae0 {t:List UInt8} (h: ¬ (4000000:Int)< ((t.length:Nat):Int)):zh t=gF [] t []:=if_neg (by omega)
def uz (w:World) (R:List Ac×Nat×Int) (e:Ending) (w':World):Prop:= ∃ A c,e= .returned (.tuple #[.slice A R.1.length c,.int .i64 ((R.2.1:Nat):Int),.int .i64 R.2.2])/\St w.heap.size w w' [.bI 11 A R.1.length (R.1.flatMap Ac.cells)]
theorem uz.none {w w':World} {fs:List Fact} {k:Nat} {v:Int} (S:St w.heap.size w w' fs):uz w ([],k,v) (.returned (.tuple #[.slice none 0 0,.int .i64 ((k:Nat):Int),.int .i64 v])) w':=
 ⟨Option.none,0,rfl,aB (show St w.heap.size w w' [] from ⟨S.low,S.base,λi f h=>by simp at h,λi j f g _ h=>by simp at h⟩)⟩
def vE (s:List UInt8):List UInt8:=Lib.trimSuffix s [10]
theorem ai6 (s:List UInt8):vE (s++[10])=s:=by
 have h:Lib.hasSuffix (s++[10]) [10]=true:=by
  show [(10:UInt8)].isSuffixOf (s++[10])=true
  rw [List.isSuffixOf_iff_suffix];exact ⟨s,rfl⟩
 unfold vE Lib.trimSuffix;rw [if_pos h];simp
theorem St.none_ {w w':World} (hb:Below w.heap.size w w'):St w.heap.size w w' []:=(St.start w).on hb
theorem Ns (s:List UInt8):(vE s).length<=s.length:=by
 unfold vE Lib.trimSuffix
 split
 ·rw [List.length_take];omega
 exact Nat.le_refl _
theorem aub (s:List UInt8) (h:s.length<=4000000) (w:World):Calls Tryz.prog 24 #[str s,.string ⟨#[10]⟩] w (ab1 w (vE s)):=
 (VH ⟨s.toArray⟩ w (by rw [rD];omega)).mono λe w' ⟨he,hw⟩=>by subst hw;exact ⟨he,Below.refl _ _⟩
def aap (w:World) (ws:List (List UInt8)) (e:Ending) (w':World):Prop:= ∃ A,e= .returned (.slice A ws.length ws.length)/\St w.heap.size w w' [.bI 1 A ws.length (ws.flatMap Nr)]
theorem ao4 (s:List UInt8) (h:s.length<=4000000) (w:World):Calls Tryz.prog 23 #[str s,.string ⟨#[32]⟩] w (aap w (eu [] s)):=by
 refine (R4 ⟨s.toArray⟩ w (by rw [rD];omega)).mono λe w' ⟨he,hw⟩=>?_;subst hw;have hc:Lib.countB ⟨s.toArray⟩ ⟨#[32]⟩=s.count 32:=by show Lib.count s [32]=_;rw [Lib.count_one]
 have hd:(Lib.splitB ⟨#[32]⟩ 0 (Lib.countB ⟨s.toArray⟩ ⟨#[32]⟩) ⟨s.toArray⟩).map (·.data.toList)=eu [] s:=by
  rw [Lib.splitB_data,hc];exact GU _ s rfl
 have hlen:Lib.countB ⟨s.toArray⟩ ⟨#[32]⟩+1=(eu [] s).length:=by
  rw [<-hd,List.length_map,Lib.splitB_all ⟨#[32]⟩ (by decide) 0 _ ⟨s.toArray⟩ rfl]
 have hm:(Lib.splitB ⟨#[32]⟩ 0 (Lib.countB ⟨s.toArray⟩ ⟨#[32]⟩) ⟨s.toArray⟩).map Value.string=(eu [] s).flatMap Nr:=by
  rw [<-hd];generalize Lib.splitB ⟨#[32]⟩ 0 (Lib.countB ⟨s.toArray⟩ ⟨#[32]⟩) ⟨s.toArray⟩=l
  induction l with
  | nil=>rfl
  | cons b l ih=>rw [List.map_cons,List.map_cons,List.flatMap_cons,ih];rfl
 rw [hlen] at he;rw [hm];refine ⟨_,he,?_⟩;exact St.jG (n:=(eu [] s).length) (s:=1) (xs:=(eu [] s).flatMap Nr) 0 (St.start w).alloc rfl (by simp) (by rw [iE (sz:=1) (λ_=>rfl)])
def ae1 (w:World) (s:List UInt8) (e:Ending) (w':World):Prop:= ∃ ev,e= .returned (.tuple #[.int .i64 (pK s),ev])/\St w.heap.size w w' []
theorem auc (s:List UInt8) (h:s.length<=4000000) (w:World) (he:mO w):Calls Tryz.prog 26 #[str s] w (ae1 w s):=
 (VI ⟨s.toArray⟩ (by rw [rD];omega) w he).mono λe w' ⟨⟨ev,h1⟩,h2⟩=>⟨ev,h1,St.none_ h2⟩
theorem zU: ∀ k<10,∀ e<4,sH[4*k+e]? =some (((k+1:Nat):Int),((e:Nat):Int)):=by decide
section
variable {u:List UInt8} {n:Nat} {p:Int×Int} {l:List (Nat×Int)}
theorem ae2 (h:aW p.1 p.2=none):tu u p=false:=by simp [tu,h]
theorem ae3 (h: ¬ wE p=u):tu u p=false:=by simp [tu,h]
theorem ae4 (h1: ¬ p.1=2) (h2: ¬ p.2=0):tu u p=false:=by simp [tu,h1,h2]
theorem Rq (hf:aW p.1 p.2=some l) (hw:wE p=u) (h:p.1=2\/p.2=0):tu u p=true:=by
 have h2:(decide (p.1=2) || decide (p.2=0))=true:=by rcases h with h | h<;>simp [h]
 unfold tu;rw [hf,h2,decide_eq_true hw];rfl
theorem F7 (h:sH[n]? =some p) (hn:tu u p=false):(sH.drop n).find? (tu u)=(sH.drop (n+1)).find? (tu u):=by
 obtain ⟨hk,rfl⟩:=List.getElem?_eq_some_iff.1 h;rw [List.drop_eq_getElem_cons hk,List.find?_cons_of_neg (by simp [hn])]
theorem Nt (h:sH[n]? =some p) (hn:tu u p=true) (hq:sH.find? (tu u)=(sH.drop n).find? (tu u)):sI u=p:=by
 obtain ⟨hk,rfl⟩:=List.getElem?_eq_some_iff.1 h;unfold sI;rw [hq,List.drop_eq_getElem_cons hk,List.find?_cons_of_pos hn];rfl
theorem ai7 (hn:40<=n) (hq:sH.find? (tu u)=(sH.drop n).find? (tu u)):sI u=(0,0):=by
 have hl:sH.length=40:=by decide
 unfold sI;rw [hq,List.drop_of_length_le (by omega)];rfl
end
theorem zV {α β:Type}: ∀ (n:Nat) (l:List α) (vs:List β),(l.take n).zip vs=(l.zip vs).take n
 | 0,_,_=>by simp
 | n+1,[],_=>by simp
 | n+1,_::_,[]=>by simp
 | n+1,a::l,v::vs=>by
  rw [List.take_succ_cons,List.zip_cons_cons,List.zip_cons_cons,List.take_succ_cons,zV n l vs]
section
variable {c:List Int} {l:List (Nat×Int)} {vs:List Int} {j:Nat} {p:Nat×Int} {v:Int}
theorem aaq (h:l[j]? =some p) (hv:vs[j]? =some v):(vV c (l.take j) vs).set p.1 v=vV c (l.take (j+1)) vs:=by
 unfold vV;rw [zV,zV,List.take_add_one,show (l.zip vs)[j]? =some (p,v) from List.getElem?_zip_eq_some.2 ⟨h,hv⟩,Option.toList_some,List.foldl_append];rfl
theorem aar (hv:vs.length<=j):vV c (l.take (j+1)) vs=vV c (l.take j) vs:=by
 unfold vV;have e:(l.zip vs)[j]? =none:=by rw [List.getElem?_eq_none_iff,List.length_zip];omega
 rw [zV,zV,List.take_add_one,e,Option.toList_none,List.append_nil]
theorem WA {i:Nat}:(kV c).setIfInBounds i (.int .i64 v)=kV (c.set i v):=by
 apply Array.toList_inj.1;simp [kV,Ho,Array.toList_setIfInBounds,List.map_set]
theorem ae5 {q:Int×Int}:kV (vV (mF q).ints l vs)=(PG q l vs).cells.toArray:=by
 rw [Ac.QG,aeV];rfl
theorem aas {ws:List (List UInt8)} {q:Int×Int} (hq:sI (ws.headD [])=q) (hf:aW q.1 q.2=some l):AA ws=PG q l (ws.tail.map pK):=by
 unfold AA;simp only [hq,hf]
theorem aat {ws:List (List UInt8)} {q:Int×Int} (hq:sI (ws.headD [])=q) (hf:aW q.1 q.2=none):AA ws=mF q:=by
 unfold AA;simp only [hq,hf]
end
section
variable {P:Program} {N:Nat} {l:Slots} {w w' w0:World} {B:Nat} {fs:List Fact} {ops:Array Oper} {o:Oper} {Q:Exit->Act->World->Prop} {v:Value} {C:World->Prop} {n i:Nat} {listed listed':Array Bool}
theorem ai8 {ty t:TypeId} {x y:Operand} {b k:Nat} {u:Value} {row row':Array Value} (hi':ops[i]? =some o) (hl:listed.setIfInBounds i true=listed') (j:Nat) (S:St B w0 w fs) (hw:Wanted N ops l o true) (hd:o.dst=none) (ho:o.op= .store ty x y) (hx:ev l x=some (.pointer (some ⟨b,k,none⟩))) (hy:ev l y=some v)
  (hi:fs[j]? =some (.blk b row t)) (hv:v.cells= #[u]) (hz:(P.info? ty).map (·.size)=some 1) (h1:u.oneCell'=true) (hk:k<row.size) (hrow:row.setIfInBounds k u=row')
  (h: ∀ w',St B w0 w' (fs.set j (.blk b row' t))->C w'/\wA P N ops Q C n listed' l w'):wK P N ops Q C n i listed l w:=by
 refine sD hi' hl j S hw hd ho hx hy hi hv hz rfl (by simpa using h1) (by omega) (row':=row') ?_ rfl h;subst hrow;rfl
end
def zi (s rest:List UInt8):Prop:=(∃ cur,s=cur++[10]/\ ∀ c∈cur,c≠10)\/(s≠[]/\(∀ c∈s,c≠10)/\rest=[])
section
variable {s rest t:List UInt8} {L:List Ac} {a:Ac}
theorem F8 {cur:List UInt8} (h: ∀ c∈cur,c≠10):gF [] (cur++[10]++rest) L=if L.length=100000 then ([],100000,14) else match pY cur with
  | none=>([],L.length,3)
  | some x=>gF [] rest (L++[x]):=by
 rw [List.append_assoc,F6 cur [] _ L h,List.nil_append,List.singleton_append,gF,if_pos rfl]
 all_goals (cases pY cur<;>rfl)
theorem Nu (h: ∀ c∈s,c≠10) (hs:s≠[]):gF [] (s++[]) L=if L.length=100000 then ([],100000,14) else ([],L.length,3):=by
 rw [F6 s [] [] L h,List.nil_append,gF,if_neg hs]
theorem F9 (h:zi s rest) (hL:L.length=100000):gF [] (s++rest) L=([],L.length,14):=by
 rcases h with ⟨cur,rfl,hc⟩ | ⟨hs,hc,rfl⟩
 ·rw [F8 hc,if_pos hL,hL]
 rw [Nu hc hs,if_pos hL,hL]
theorem wJ (h:zi s rest) (hL: ¬ L.length=100000) (ha:AA (eu [] (vE s))=a) (hb: ¬ (aN a=0/\jK a++[10]=s)):gF [] (s++rest) L=([],L.length,3):=by
 rcases h with ⟨cur,rfl,hc⟩ | ⟨hs,hc,rfl⟩
 ·rw [F8 hc,if_neg hL];rw [ai6] at ha
  cases hr:pY cur with
  | none=>rfl
  | some x=>
   obtain ⟨h1,h2,h3⟩:=aal hr;rw [ha] at h1;subst h1;exact absurd ⟨h2,by rw [h3]⟩ hb
 rw [Nu hc hs,if_neg hL]
theorem Yc (h:zi s rest) (hL: ¬ L.length=100000) (h0:aN a=0) (h1:jK a++[10]=s):gF [] (s++rest) L=gF [] rest (L++[a]):=by
 rcases h with ⟨cur,rfl,hc⟩ | ⟨hs,hc,rfl⟩
 ·rw [F8 hc,if_neg hL];have hcur:jK a=cur:=List.append_cancel_right h1;rw [aam h0 hcur]
 exfalso
 subst h1;exact hc 10 (by simp) rfl
theorem ai9 {i:Nat} (h:Lib.indexByte t 10=i):i+1<=t.length/\zi (t.take (i+1)) (t.drop (i+1)):=by
 obtain ⟨h1,h2⟩:=Lib.indexByte_some h;have hi:i<t.length:=(List.getElem?_eq_some_iff.1 h1).1;refine ⟨hi,.inl ⟨t.take i,?_,λc hc e=>?_⟩⟩
 ·rw [List.take_add_one,h1];rfl
 subst e;obtain ⟨k,hk,hck⟩:=List.getElem_of_mem hc;have hk2:k<i:=by rw [List.length_take] at hk;omega
 refine h2 k hk2 ?_;rw [List.getElem_take] at hck;rw [List.getElem?_eq_getElem (by omega),hck]
theorem aja (h: ¬ 0<=Lib.indexByte t 10) (ht:t≠[]):zi t []:=by
 have hg:=Lib.indexByte_ge t 10;have hn:=Lib.indexByte_none (show Lib.indexByte t 10= -1 by omega);refine .inr ⟨ht,λc hc e=>?_,rfl⟩;subst e;obtain ⟨k,hk,hck⟩:=List.getElem_of_mem hc;exact hn k (by rw [List.getElem?_eq_getElem hk,hck])
end
theorem Ga: ∀ (t cur:List UInt8),∀ v∈eu cur t,v.length<=cur.length+t.length
 | [],cur,v,h=>by simp [eu] at h;subst h;simp
 | c::t,cur,v,h=>by
  rw [eu] at h
  split at h
  ·rcases List.mem_cons.1 h with rfl | h
   ·rw [List.length_cons];omega
   have:=Ga t [] v h;rw [List.length_cons];simp at this;omega
  have:=Ga t _ v h;rw [List.length_append,List.length_singleton] at this;rw [List.length_cons];omega
def sqL:Code->Code
 | .seq x _=>x
 | c=>c
def sqR:Code->Code
 | .seq _ y=>y
 | c=>c
def ay2:Code->Code
 | .block _ c=>c
 | c=>c
def rfA:Code->Code
 | .rangeFunc _ _ a _=>a
 | c=>c
def rfB:Code->Code
 | .rangeFunc _ _ _ b=>b
 | c=>c
noncomputable def Nv:Code:=ay2 (sqR (sqL (sqR (sqR (sqR (Tryz.f6.body.getD .skip))))))
noncomputable def dX:Code:=rfA Nv
noncomputable def readBody:Code:=rfB Nv
def oC (a:Act) (fn:FuncId) (ps:Array Tmp) (assign body:Code) (dp:Nat) (st:LoopState) (pe:Option Code):Loop:={ state:=st,pending:=pe,fn,tmps:=a.tmps,params:=ps,assign,body,defers:=dp }
def Ll (dp:Nat):Deferred:={ target:= .collected dp,args:= #[] }
def lS (r:Loop) (x:Obj):Prop:=x= .loop r
def mY (o:Option (List Deferred)) (x:Obj):Prop:=x= .deferred o
section
variable {P:Program} {N:Nat} {l:Slots} {a:Act} {w w' w0:World} {B:Nat} {fs:List Fact} {ops:Array Oper} {o:Oper} {rest:List Oper} {Q:Exit->Act->World->Prop} {v p:Value} {d:Nat}
theorem St.Fb {lp:Nat} {R R':Obj->Prop} {o':Obj} (j:Nat) (S:St B w0 w fs) (hi:fs[j]? =some (.loc lp R)) (hR:R' o'):St B w0 (w.putObj lp o') (fs.set j (.loc lp R')):=by
 have h:=S.all j _ hi;obtain ⟨h1,ob,h2,h3⟩:=h;have hlt:lp<w.heap.size:=(Array.getElem?_eq_some_iff.1 h2).1;have hg:=grownBy_putObj' w lp o';refine S.turn j hi (S.low.grown hg S.base λk hk=>by cases hk;exact h1) hg.size (λk hk hne=>hg.block k hk λe=>hne (by rw [e];rfl)) ⟨h1,o',World.putObj_heap_same hlt,hR⟩ (λk hk=> .inl hk)
theorem PI {g:Operand} {ps:Array Tmp} {assign body:Code} {gf:Nat} {lb:Array Value} (S:St B w0 w fs) (hg:ev l g=some (.func (.func gf) #[] lb)) (eg: ∀ args w,(callFunc gf args).run P w= .ok (.enter gf args) w)
  (h: ∀ (a:Act) (fn:FuncId) (lp dp:Nat) (w1:World),Fr N l a->St B w0 w1 (.loc lp (lS (oC a fn ps assign body dp .ready none)):: .loc dp (mY (some []))::fs)->
   Calls P gf (#[.func (.yield lp) #[] #[]]++lb) w1 λe w3=>(∃ v,e= .returned v)/\
    ((∃ w4,(Instr.endLoop lp).run P w3= .ok none w4/\In.wQ [Ll dp] N Q .normal l w4)\/(∃ w4,(Instr.endLoop lp).run P w3= .ok (some .ret) w4/\In.wQ [Ll dp] N Q .ret l w4))):
  wC P N (.rangeFunc g ps assign body) Q l w:=by
 intro a F;refine (wpIn_wide (n:=0)).1 ?_;refine wpIn_rangeFunc ?_;intro fn _;have S1:St B w0 ((w.alloc (.deferred (some []))).alloc (.loop (oC a fn ps assign body w.heap.size .ready none))) (.loc (w.alloc (.deferred (some []))).heap.size (lS (oC a fn ps assign body w.heap.size .ready none)):: .loc w.heap.size (mY (some []))::fs):=
  (S.D6 (R:=mY (some [])) rfl).D6 (R:=lS (oC a fn ps assign body w.heap.size .ready none)) rfl
 rw [World.size_alloc] at S1;obtain ⟨W1,hW1⟩: ∃ W1,(w.alloc (.deferred (some []))).alloc (.loop (oC a fn ps assign body w.heap.size .ready none))=W1:=⟨_,rfl⟩;rw [hW1] at S1;refine ⟨w.heap.size+1,[Ll w.heap.size],W1,{ target:= .fn (.func gf) lb,args:= #[.func (.yield (w.heap.size+1)) #[] #[]] },W1,gf,#[.func (.yield (w.heap.size+1)) #[] #[]]++lb,W1,
  ?_,?_,λ_ _=>trivial,?_,λh=>(by cases h),?_⟩
 ·rw [<-hW1];exact run_enterLoop_outer _ _ _ _ _
 ·have hgv:=F.ev hg;simp only [resolve,hgv];simp [go_sem]
 ·simp [invoke,go_sem,eg]
 have hd:a.defers=[]:=F.defers;refine callsIn_wide.2 ((h a fn (w.heap.size+1) w.heap.size _ F S1).mono ?_);rintro e w3 ⟨⟨v,rfl⟩,⟨w4,he,hq⟩ | ⟨w4,he,hq⟩⟩
 ·refine ⟨none,w4,he,hq _ ?_⟩;exact ⟨by rw [hd];rfl,F.size,F.get⟩
 refine ⟨some .ret,w4,he,wpIn_ret (hq _ ?_)⟩;exact ⟨by rw [hd];rfl,F.size,F.get⟩
theorem ae6 {ds:List Deferred} {y:Code} (h:In.wC none ds P N y Q l w):In.wQ ds N (Exit.then (y.wp P Q) Q) .normal l w:=λa F=>wpIn_wide.1 (h a F)
theorem PK {ds:List Deferred} {K:Act->World->Prop} (h:In.wQ ds N Q .ret l w):In.wQ ds N (Exit.then K Q) .ret l w:=h
theorem Rs {c:Code} (h:In.wC none [] P N c Q l w):wC P N c Q l w:=λa F=>wpIn_wide.1 (h a ⟨F.defers,F.size,F.get⟩)
theorem In.U2 {e:Exit} (h:Go.Proofs.YtcomidffhiilcaaGreatDoor.wQ N Q e l w):In.wQ [] N Q e l w:=λa F=>h a ⟨F.defers,F.size,F.get⟩
theorem In.Rt {k lp:Nat} {y:Operand} {ts:Array TypeId} {rec:Loop} (hw:Wanted N ops l o true) (hd:o.dst=some d) (hN:Nat.blt d N=true) (ho:o.op= .call { callee:= .value (.tmp k),args:= #[y],argTypes:=ts })
  (hk:lk l k=some (.func (.yield lp) #[] #[])) (hy:Go.Proofs.YtcomidffhiilcaaGreatDoor.ev l y=some v) (hrec:w.heap[lp]? =some (.loop rec)) (hps:rec.params.size=1)
  (h:RoundIn Fence.wide 0 P lp rec.fn ((rec.params.zip #[v]).foldl (λt (p,v)=>t.setIfInBounds p v) rec.tmps) rec.assign rec.body w λe w'=> ∃ u,e= .returned u/\In.wL none [] P N ops Q rest ((d,u)::l) w'):In.wL none [] P N ops Q (o::rest) l w:=λa F=>wpListIn_step λK hK=>by
 rw [if_pos (In.tZ hw F)];refine ⟨λ_ _=>trivial,?_⟩;have hkv:a.eval (.tmp k)= .func (.yield lp) #[] #[]:=F.ev (x:= .tmp k) hk;have hyv:a.eval y=v:=F.ev hy;have hyr:=run_yield (P:=P) (args:= #[v]) hrec (by simpa using hps.symm);have hr:(execOp a.eval o).run P w= .ok (.round lp rec.fn ((rec.params.zip #[v]).foldl (λt (p,v)=>t.setIfInBounds p v) rec.tmps) rec.assign rec.body) w:=by
  unfold execOp;simp only [ho,resolve,Deferred.ofValue,invoke,Sem.run_bind,Sem.run_pure,Result.andThen_ok,hkv,hyv,List.map_toArray,List.map_cons,List.map_nil];simp [invoke,hyr,hyv]
 rw [Oper.semAt_eq _ _ _ (λc e=>by rw [ho] at e;cases e),hr];refine ⟨λh=>(by cases h),h.mono λe w' hh=>?_⟩;obtain ⟨u,rfl,hu⟩:=hh
 show K (a.put o.dst u) w'
 rw [hd];exact hK _ _ (hu _ (F.put hN u))
theorem In.Ru {fn:Func} {R:Ending->World->Prop} {rs:List ResultVar} {vs:List Value} {dp j:Nat} (S:St B w0 w fs) (hi:fs[j]? =some (.loc dp (mY (some [])))) (hr:fn.results=rs.toArray)
  (h: ∀ w',St B w0 w' (fs.set j (.loc dp (mY none)))->ED P l w' rs vs/\R (.returned (oq vs)) w'):In.wQ [Ll dp] N (bodyPostM Fence.wide 0 P fn R) .ret l w:=λa F=>by
 obtain ⟨o,ho,hR⟩:=St.loc j S hi;have hR':o= .deferred (some []):=hR;subst hR';obtain ⟨h1,h2⟩:=h _ (S.Fb (o':= .deferred none) (R':=mY none) j hi rfl)
 show LeavesInM Fence.wide 0 P fn a.tmps R a.defers .returning w
 rw [F.defers];refine ⟨by simp,.inl ⟨dp,_,rfl,run_takeDeferred ho,?_⟩⟩;exact ⟨_,vL (a:={ a with defers:=[] }) F.fr hr h1,h2⟩
theorem aau {fn:Func} {R:Ending->World->Prop} {rs:List ResultVar} {vs:List Value} (hr:fn.results=rs.toArray) (h:ED P l w rs vs) (hR:R (.returned (oq vs)) w):wQ N (bodyPostM Fence.wide 0 P fn R) .ret l w:=λa F=>by
 show LeavesInM Fence.wide 0 P fn a.tmps R a.defers .returning w
 rw [F.defers];exact ⟨_,vL F hr h,hR⟩
theorem PL {f:FuncId} {fn:Func} {c:Code} {vs:List Value} {R:Ending->World->Prop} (hf:P.funcs[f]? =some fn) (hb:fn.body=some c) (hn:fn.ntmps=N) (hN:Nat.ble vs.length N=true)
  (h:wC P N c (bodyPostM Fence.wide 0 P fn R) (ents 0 vs) w):Calls P f vs.toArray w R:=
 callsIn_wide.1 (callsIn_of_wp_marks (n:=0) hf hb trivial (wpIn_wide.2 (by rw [hn];exact h _ (Fr.enter vs hN))))
end
theorem WC (u:List UInt8) (w:World):
    Calls Tryz.prog 25 #[str u] w (acF w (mF (sI u))):=by
 have S:=St.start w;refine gK 42 Tryz.func25 ?_;refine cw [0] ?_;refine YH (na (row:= #[.int .i64 0,.int .i64 0,.int .i64 0,.int .i64 0,.int .i64 0,.int .i64 0,.int .i64 0,.int .i64 0,.int .i64 0,.int .i64 0,.int .i64 0]) S Tryz.zeroValue53 ?_);intro b1 w2 S3;clear S;refine aT (ay (aA (aA (av (va ?_)))));refine aT (ay (gH (eP (X:=Nat) (λxv=>[(0,str u),(2,.pointer (some ⟨b1,0,none⟩)),(3,.int .i64 ((xv+1:Nat):Int))]) (λxv wr=>(xv<=10)/\(sH.find? (tu u)=(sH.drop (4*xv)).find? (tu u))/\St w.heap.size w wr [.blk b1 #[.int .i64 0,.int .i64 0,.int .i64 0,.int .i64 0,.int .i64 0,.int .i64 0,.int .i64 0,.int .i64 0,.int .i64 0,.int .i64 0,.int .i64 0] 53]) (λxv=>10-xv) (0) ?_ ?_ ?_)))
 ·exact ⟨Nat.zero_le _,rfl,S3⟩
 ·exact ⟨rfl,rfl,rfl,trivial⟩
 rintro k w4 ⟨hi6,Rv,S5⟩
 try dsimp only at hi6 Rv S5;clear S3
 refine bg (l':=[(0,str u),(2,.pointer (some ⟨b1,0,none⟩)),(3,.int .i64 ((k+1:Nat):Int))]) ⟨rfl,rfl,rfl,trivial⟩ (aA (aA (av (vm ?_))));by_cases h8:((k+1:Nat):Int)<=10
 ·refine vv (ajW h8) ?_;refine qk [0,2,3,10] ?_;refine ay (dO rfl (fC (ay (aA (gH (aA (av (va ?_))))))));refine qk [0,2,3,4] ?_;refine ay (gH (eP (X:=Nat) (λxv=>[(0,str u),(2,.pointer (some ⟨b1,0,none⟩)),(3,.int .i64 ((k+1:Nat):Int)),(4,.int .i64 ((xv:Nat):Int))]) (λxv wr=>(xv<=4)/\(sH.find? (tu u)=(sH.drop (4*k+xv)).find? (tu u))/\St w.heap.size w wr [.blk b1 #[.int .i64 0,.int .i64 0,.int .i64 0,.int .i64 0,.int .i64 0,.int .i64 0,.int .i64 0,.int .i64 0,.int .i64 0,.int .i64 0,.int .i64 0] 53]) (λxv=>4-xv) (0) ?_ ?_ ?_))
  ·exact ⟨Nat.zero_le _,Rv,S5⟩
  ·exact ⟨rfl,rfl,rfl,rfl,trivial⟩
  rintro e w9 ⟨zw,Iz,nN⟩
  try dsimp only at zw Iz nN;clear S5
  refine bg (l':=[(0,str u),(2,.pointer (some ⟨b1,0,none⟩)),(3,.int .i64 ((k+1:Nat):Int)),(4,.int .i64 ((e:Nat):Int))]) ⟨rfl,rfl,rfl,rfl,trivial⟩ (aA (aA (av (vm ?_))));by_cases oH:((e:Nat):Int)<=3
  ·refine vv (ajW oH) ?_;refine qk [0,2,3,4,14] ?_;refine ay (dO rfl (fC (ay (aA (gH (aA (av (vm ?_))))))));refine vm ?_;refine vv (v:= .agg #[.int .i64 ((e:Nat):Int),.int .i64 0,.int .i64 0,.int .i64 0,.int .i64 0,.int .i64 0]) (xC (vs:=[(0,.int .i64 ((e:Nat):Int))]) rfl ⟨rfl,rfl,trivial⟩ (by kernel_rfl)) ?_;refine vv (v:= .agg #[.int .i64 ((k+1:Nat):Int),.int .i64 0,.int .i64 0,.int .i64 0,.int .i64 0,.int .i64 ((e:Nat):Int),.int .i64 0,.int .i64 0,.int .i64 0,.int .i64 0,.int .i64 0]) (xC (vs:=[(0,.int .i64 ((k+1:Nat):Int)),(5,.agg #[.int .i64 ((e:Nat):Int),.int .i64 0,.int .i64 0,.int .i64 0,.int .i64 0,.int .i64 0])]) rfl ⟨rfl,rfl,rfl,rfl,trivial⟩ (by kernel_rfl)) ?_;refine na (row:= #[.int .i64 0,.int .i64 0,.int .i64 0,.int .i64 0,.int .i64 0,.int .i64 0,.int .i64 0,.int .i64 0,.int .i64 0,.int .i64 0,.int .i64 0]) nN Tryz.zeroValue53 ?_;intro b14 C8 jR;clear nN;refine sa 0 jR kQ ?_;intro Kt iU;clear jR;refine qk [0,2,3,4,5] ?_;refine ay (aA ?_);have HF:=λw h=>xW b14 (mF (((k+1:Nat):Int),((e:Nat):Int))) w h
   rcases hf:aW (((k+1:Nat):Int),((e:Nat):Int)).1 (((k+1:Nat):Int),((e:Nat):Int)).2 with _ | l
   ·rw [show aW (mF (((k+1:Nat):Int),((e:Nat):Int))).kd (mF (((k+1:Nat):Int),((e:Nat):Int))).ek=none from hf] at HF;refine av (jy (wn rfl) rfl rfl (eF (vs:=[.pointer (some ⟨b14,0,none⟩)]) rfl eQ ⟨rfl,trivial⟩) (HF _ (St.lI 0 iU rfl rfl rfl)) ?_);rintro _ BZ ⟨rfl,al3⟩;refine ⟨_,rfl,?_⟩;have kD:=iU.on al3;clear al3 iU;refine vm ?_;refine vv yx ?_;refine vv yx ?_;refine vv yx ?_;iterate 3 refine va ?_
    refine qk [0,2,3,4,5,6,8] ?_;refine yF (vm ?_);refine vm ?_;iterate 3 refine vs ?_
    refine vv Lu ?_;refine vm ?_;iterate 6 refine vs ?_
    refine vv Lu ?_;refine qk [0,2,3,4,5,39] ?_;refine ay (bZ rfl (fC (dz (ay (av (vm ?_))))));refine vv (v:= .int .i64 ((e+1:Nat):Int)) (aC rfl rfl rfl (qY (by omega) (by omega))) ?_;refine va ?_;refine qk [0,2,3,4] ?_;have iM:St _ _ _ [_]:=kD.mg [0];clear kD;refine bT (e+1) ?_ ⟨rfl,rfl,rfl,rfl,trivial⟩ (by first | omega | (dsimp only;omega));exact ⟨(by omega),(by rw [Iz];exact F7 (zU k (by omega) e (by omega)) (ae2 hf)),iM⟩
   rw [show aW (mF (((k+1:Nat):Int),((e:Nat):Int))).kd (mF (((k+1:Nat):Int),((e:Nat):Int))).ek=some l from hf] at HF;refine av (jy (wn rfl) rfl rfl (eF (vs:=[.pointer (some ⟨b14,0,none⟩)]) rfl eQ ⟨rfl,trivial⟩) (HF _ (St.lI 0 iU rfl rfl rfl)) ?_);rintro _ LG ⟨A23,rfl,T26⟩;refine ⟨_,rfl,?_⟩;have iy:=iU.ext T26 rfl;clear T26 iU;change St _ _ _ [.bI 2 A23 l.length ((l).flatMap (bE b14)),_,_] at iy;refine vm ?_;refine vv yx ?_;refine vv yx ?_;refine vv yx ?_;iterate 3 refine va ?_
   refine qk [0,2,3,4,5,6,8] ?_;refine yF (vm ?_);refine vm ?_;refine vg ym ?_;refine vg ym ?_;by_cases h27:wE (((k+1:Nat):Int),((e:Nat):Int))=u
   ·refine vg (v:= .bool true) (aC rfl rfl rfl (aob h27)) ?_;refine vv ypT ?_;refine vm ?_;refine vg ym ?_;by_cases h28:((k+1:Nat):Int)=2
    ·refine vg (ajY h28) ?_;refine vg ym ?_;iterate 2 refine vs ?_
     refine vg ypT ?_;refine vv ypT ?_;refine qk [0,2,3,4,5,39] ?_;refine tK (vv (ylr 1 iy Tryz.underlying53 kQ) ?_);refine sa 2 iy kQ ?_;intro XZ uq;clear iy;refine qk [2] ?_;refine ay (fP (dx (aO (aO (dx (dx (aO (aO (dx (aO (bQ (rs:=[.cell 2 53]) (vs:=[.agg #[.int .i64 ((k+1:Nat):Int),.int .i64 0,.int .i64 0,.int .i64 0,.int .i64 0,.int .i64 ((e:Nat):Int),.int .i64 0,.int .i64 0,.int .i64 0,.int .i64 0,.int .i64 0]]) rfl ⟨⟨_,rfl,dG 2 uq rfl Tryz.underlying53 rfl kQ⟩,trivial⟩ ?_)))))))))));have hkm:=Nt (zU k (by omega) e (by omega)) (Rq hf h27 (.inl h28)) Iz;rw [hkm];exact ⟨rfl,uq.low⟩
    refine vg (abV h28) ?_;refine vg ym ?_;refine vg ym ?_;by_cases h31:((e:Nat):Int)=0
    ·refine vg (ajY h31) ?_;refine vg Lu ?_;refine vv ypT ?_;refine qk [0,2,3,4,5,39] ?_;refine tK (vv (ylr 1 iy Tryz.underlying53 kQ) ?_);refine sa 2 iy kQ ?_;intro w32 kE;clear iy;refine qk [2] ?_;refine ay (fP (dx (aO (aO (dx (dx (aO (aO (dx (aO (bQ (rs:=[.cell 2 53]) (vs:=[.agg #[.int .i64 ((k+1:Nat):Int),.int .i64 0,.int .i64 0,.int .i64 0,.int .i64 0,.int .i64 ((e:Nat):Int),.int .i64 0,.int .i64 0,.int .i64 0,.int .i64 0,.int .i64 0]]) rfl ⟨⟨_,rfl,dG 2 kE rfl Tryz.underlying53 rfl kQ⟩,trivial⟩ ?_)))))))))));have hkm:=Nt (zU k (by omega) e (by omega)) (Rq hf h27 (.inr h31)) Iz;rw [hkm];exact ⟨rfl,kE.low⟩
    refine vg (abV h31) ?_;refine vg Lu ?_;refine vv ypT ?_;refine qk [0,2,3,4,5,39] ?_;refine ay (bZ rfl (fC (dz (ay (av (vm ?_))))));refine vv (v:= .int .i64 ((e+1:Nat):Int)) (aC rfl rfl rfl (qY (by omega) (by omega))) ?_;refine va ?_;refine qk [0,2,3,4] ?_;have mX:St _ _ _ [_]:=iy.mg [1,0];clear iy;refine bT (e+1) ?_ ⟨rfl,rfl,rfl,rfl,trivial⟩ (by first | omega | (dsimp only;omega));exact ⟨(by omega),(by rw [Iz];exact F7 (zU k (by omega) e (by omega)) (ae4 h28 h31)),mX⟩
   refine vg (v:= .bool false) (aC rfl rfl rfl (aoc h27)) ?_;refine vv ypT ?_;refine vm ?_;iterate 6 refine vs ?_
   refine vv Lu ?_;refine qk [0,2,3,4,5,39] ?_;refine ay (bZ rfl (fC (dz (ay (av (vm ?_))))));refine vv (v:= .int .i64 ((e+1:Nat):Int)) (aC rfl rfl rfl (qY (by omega) (by omega))) ?_;refine va ?_;refine qk [0,2,3,4] ?_;have uj:St _ _ _ [_]:=iy.mg [1,0];clear iy;refine bT (e+1) ?_ ⟨rfl,rfl,rfl,rfl,trivial⟩ (by first | omega | (dsimp only;omega));exact ⟨(by omega),(by rw [Iz];exact F7 (zU k (by omega) e (by omega)) (ae3 h27)),uj⟩
  refine vv (ajX oH) ?_;refine qk [0,2,3,4,14] ?_;refine ay (bZ rfl (qH (dR (dR (jN (dz (ay (av (vm ?_)))))))));refine vv (v:= .int .i64 (((k+1)+1:Nat):Int)) (aC rfl rfl rfl (qY (by omega) (by omega))) ?_;refine va ?_;refine qk [0,2,3] ?_;obtain rfl:e=4:=by omega
  refine bT (k+1) ?_ ⟨rfl,rfl,rfl,trivial⟩ (by first | omega | (dsimp only;omega));exact ⟨(by omega),(by rw [Iz,show 4*(k+1)=4*k+4 by omega]),nN⟩
 refine vv (ajX h8) ?_;refine qk [0,2,3,10] ?_;refine ay (bZ rfl (qH (dR (dR (jN (ay (aA (av (vv (v:= .agg #[.int .i64 0,.int .i64 0,.int .i64 0,.int .i64 0,.int .i64 0,.int .i64 0,.int .i64 0,.int .i64 0,.int .i64 0,.int .i64 0,.int .i64 0]) yz ?_)))))))));refine sa 0 S5 kQ ?_;intro w36 o8;clear S5;refine qk [2] ?_;refine Ux (bQ (rs:=[.cell 2 53]) (vs:=[.agg #[.int .i64 0,.int .i64 0,.int .i64 0,.int .i64 0,.int .i64 0,.int .i64 0,.int .i64 0,.int .i64 0,.int .i64 0,.int .i64 0,.int .i64 0]]) rfl ⟨⟨_,rfl,dG 0 o8 rfl Tryz.underlying53 rfl kQ⟩,trivial⟩ ?_);have hkm:=ai7 (by omega) Rv;rw [hkm];exact ⟨rfl,o8.low⟩
theorem WE (s:List UInt8) (hs:s.length<=4000000) (ws:List (List UInt8)) (hws:eu [] (vE s)=ws) (hwl: ∀ v∈ws,v.length<=4000000) (w:World) (he:mO w):
    Calls Tryz.prog 14 #[str s] w (acF w (AA ws)):=by
 have S:=St.start w;have HS:=λw=>ao4 (vE s) (Nat.le_trans (Ns s) hs) w;rw [hws] at HS;have hne:=Bn (vE s) [];rw [hws] at hne;have hw1:1<=ws.length:=List.length_pos_iff.2 hne;refine gK 48 Tryz.func14 ?_;refine cw [0] ?_;refine YH (na (row:= #[.int .i64 0,.int .i64 0,.int .i64 0,.int .i64 0,.int .i64 0,.int .i64 0,.int .i64 0,.int .i64 0,.int .i64 0,.int .i64 0,.int .i64 0]) S Tryz.zeroValue53 ?_);intro b1 w2 S3;clear S;refine aT (ay (aA (av (vm ?_))));refine jy (wn rfl) rfl rfl (eF (vs:=[str s,.string ⟨#[10]⟩]) rfl eQ ⟨rfl,rfl,trivial⟩) (aub s hs _) ?_;rintro _ w4 ⟨rfl,hb6⟩;refine ⟨_,rfl,?_⟩;have S5:=S3.on hb6;clear hb6 S3;refine jy (wn rfl) rfl rfl (eF (vs:=[str (vE s),.string ⟨#[32]⟩]) rfl eQ ⟨rfl,rfl,trivial⟩) (HS _) ?_;rintro _ w8 ⟨A7,rfl,T10⟩;refine ⟨_,rfl,?_⟩;have S9:=S5.ext T10 rfl;clear T10 S5;change St _ _ _ [.bI 1 A7 ws.length ((ws).flatMap Nr),_] at S9;refine va ?_;refine qk [2,3] ?_;refine ay (aA ?_);obtain ⟨b11,o12,rfl⟩:=Rd.addr (St.bI 0 S9 rfl) (by omega);obtain ⟨x13,arN⟩:=EL 0 (St.bI 0 S9 rfl) (by omega);obtain ⟨p,hp⟩: ∃ p,sI x13=p:=⟨_,rfl⟩;have hq:sI (ws.headD [])=p:=by rw [<-hp,List.headD_eq_head?_getD,List.head?_eq_getElem?,arN];rfl
 have HK:=λw=>WC x13 w;rw [hp] at HK;refine av (vm ?_);refine vv (v:= .pointer (some ⟨b11,o12+0*1,none⟩)) (aZ rfl rfl rfl (lJ 0 Tryz.underlying90 kQ (by omega) (by omega))) ?_;refine vv (ah rfl rfl (gU Tryz.underlying9 rfl (Rd.Xm (i:=0) (St.bI 0 S9 rfl) (bU (enc:=Nr) (sz:=1) (λ_=>rfl) arN rfl)))) ?_;refine cab eQ S9 (HK _) ?_;intro C8 jR;clear S9;refine na (row:= #[.int .i64 0,.int .i64 0,.int .i64 0,.int .i64 0,.int .i64 0,.int .i64 0,.int .i64 0,.int .i64 0,.int .i64 0,.int .i64 0,.int .i64 0]) jR Tryz.zeroValue53 ?_;intro b18 BZ kD;clear jR;refine sa 0 kD kQ ?_;intro CW iM;clear kD;refine qk [2,3,4] ?_;refine ay (aA ?_);have HF:=λw h=>xW b18 (mF p) w h
 rcases hf:aW p.1 p.2 with _ | l
 ·rw [show aW (mF p).kd (mF p).ek=none from hf] at HF;refine av (jy (wn rfl) rfl rfl (eF (vs:=[.pointer (some ⟨b18,0,none⟩)]) rfl eQ ⟨rfl,trivial⟩) (HF _ (St.lI 0 iM rfl rfl rfl)) ?_);rintro _ Jj ⟨rfl,arO⟩;refine ⟨_,rfl,?_⟩;have jq:=iM.on arO;clear arO iM;refine vm ?_;refine vv yx ?_;refine vv yx ?_;refine vv yx ?_;iterate 3 refine va ?_
  refine qk [2,3,4,6] ?_;refine yS (vm ?_);refine vv (v:= .int .i64 0) (cu (vs:=[.slice none 0 0]) rfl ⟨rfl,trivial⟩ λ_=>kT rfl Tryz.underlying79) ?_;refine vm ?_;refine qk [2,3,4,22,23,24] ?_;refine ay (gH (FJ (lY (aA (av (vv abU ?_))))));refine aT (ay (aA (bZ rfl (qH (dR (dR (jN (ay (aA (av (vv (ylr 0 jq Tryz.underlying53 kQ) ?_)))))))))));refine sa 2 jq kQ ?_;intro Jh qx;clear jq;refine qk [2] ?_;refine Ux (bQ (rs:=[.cell 2 53]) (vs:=[.agg #[.int .i64 p.1,.int .i64 0,.int .i64 0,.int .i64 0,.int .i64 0,.int .i64 p.2,.int .i64 0,.int .i64 0,.int .i64 0,.int .i64 0,.int .i64 0]]) rfl ⟨⟨_,rfl,dG 2 qx rfl Tryz.underlying53 rfl kQ⟩,trivial⟩ ?_);rw [aat hq hf];exact ⟨rfl,qx.low⟩
 rw [show aW (mF p).kd (mF p).ek=some l from hf] at HF;have hl5:=zD hf;refine av (jy (wn rfl) rfl rfl (eF (vs:=[.pointer (some ⟨b18,0,none⟩)]) rfl eQ ⟨rfl,trivial⟩) (HF _ (St.lI 0 iM rfl rfl rfl)) ?_);rintro _ XZ ⟨A28,rfl,T31⟩;refine ⟨_,rfl,?_⟩;have uq:=iM.ext T31 rfl;clear T31 iM;change St _ _ _ [.bI 2 A28 l.length ((l).flatMap (bE b18)),_,_,_] at uq;refine vm ?_;refine vv yx ?_;refine vv yx ?_;refine vv yx ?_;iterate 3 refine va ?_
 refine qk [2,3,4,6] ?_;refine yS (vm ?_);refine vv (v:= .int .i64 ((l.length:Nat):Int)) (cu (vs:=[.slice A28 l.length l.length]) rfl ⟨rfl,trivial⟩ λ_=>kT rfl Tryz.underlying79) ?_;refine vm ?_;refine qk [2,3,4,22,23,24] ?_;refine ay (gH (eP (X:=Nat) (λxv=>[(2,.pointer (some ⟨b1,0,none⟩)),(3,.slice (some ⟨b11,o12,none⟩) ws.length ws.length),(4,.pointer (some ⟨b18,0,none⟩)),(22,.slice A28 l.length l.length),(23,.int .i64 ((l.length:Nat):Int)),(24,.int .i64 ((xv:Nat):Int))]) (λxv wr=>(xv<=l.length)/\St w.heap.size w wr [.bI 2 A28 l.length ((l).flatMap (bE b18)),.blk b18 (kV (vV (mF p).ints (l.take xv) (ws.tail.map pK))) 53,.bI 1 (some ⟨b11,o12,none⟩) ws.length ((ws).flatMap Nr),.blk b1 #[.int .i64 0,.int .i64 0,.int .i64 0,.int .i64 0,.int .i64 0,.int .i64 0,.int .i64 0,.int .i64 0,.int .i64 0,.int .i64 0,.int .i64 0] 53]) (λxv=>l.length-xv) (0) ?_ ?_ ?_))
 ·exact ⟨Nat.zero_le _,uq⟩
 ·exact ⟨rfl,rfl,rfl,rfl,rfl,rfl,trivial⟩
 rintro j w32 ⟨Gb,kE⟩
 try dsimp only at Gb kE;clear uq
 refine bg (l':=[(2,.pointer (some ⟨b1,0,none⟩)),(3,.slice (some ⟨b11,o12,none⟩) ws.length ws.length),(4,.pointer (some ⟨b18,0,none⟩)),(22,.slice A28 l.length l.length),(23,.int .i64 ((l.length:Nat):Int)),(24,.int .i64 ((j:Nat):Int))]) ⟨rfl,rfl,rfl,rfl,rfl,rfl,trivial⟩ (aA (av ?_));by_cases h35:((j:Nat):Int)< ((l.length:Nat):Int)
 ·refine vv (OP h35) ?_;refine aT (ay (aA (dO rfl (fC (ay (aA (gH (aA (av (vm ?_))))))))));obtain ⟨sO,o37,rfl⟩:=Rd.addr (St.bI 0 kE rfl) (by omega);obtain ⟨x38,hx39⟩:=EL j (St.bI 0 kE rfl) (by omega);refine vv (v:= .pointer (some ⟨sO,o37+j*2,none⟩)) (aZ rfl rfl rfl (lJ j Tryz.underlying79 kQ (by omega) (by omega))) ?_;refine vv (ah rfl rfl (lT (cs:=(bE b18) x38) Tryz.underlying85 rfl kQ rfl (Rd.vG (St.bI 0 kE rfl) (λ_ _ h=>bU (enc:=(bE b18)) (sz:=2) (λ_=>rfl) hx39 h)))) ?_;refine na (row:= #[.pointer none,.int .i64 0]) kE Tryz.zeroValue85 ?_;intro b40 w41 uZ;clear kE;refine va ?_;refine sa 0 uZ kQ ?_;intro w43 yO;clear uZ;refine qk [2,3,4,22,23,24,9,8] ?_;refine yF (vm ?_);refine vv (v:= .int .i64 ((j+1:Nat):Int)) (aC rfl rfl rfl (qY (by omega) (by omega))) ?_;refine vm ?_;refine vv (v:= .int .i64 ((ws.length:Nat):Int)) (cu (vs:=[.slice (some ⟨b11,o12,none⟩) ws.length ws.length]) rfl ⟨rfl,trivial⟩ λ_=>kT rfl Tryz.underlying90) ?_;by_cases h45:((j+1:Nat):Int)< ((ws.length:Nat):Int)
  ·refine vv (OP h45) ?_;refine qk [2,3,4,22,23,24,9,8,33] ?_;refine ay (dO rfl ?_);obtain ⟨x46,al4⟩:=EL (j+1) (St.bI 3 yO rfl) (by omega);have hv:(ws.tail.map pK)[j]? =some (pK x46):=by rw [List.getElem?_map,List.getElem?_tail,al4];rfl
   have hlu:x46.length<=4000000:=hwl x46 (List.mem_of_getElem? al4);have hlt:=Dx hf x38 (List.mem_of_getElem? hx39);have pW:=yO.drew;clear yO;refine Du (C:=λw'=>St w.heap.size w w' [.blk b40 #[.pointer (some ⟨b18,x38.1,none⟩),.int .i64 x38.2] 85,.bI 2 (some ⟨sO,o37,none⟩) l.length ((l).flatMap (bE b18)),.bI 1 (some ⟨b11,o12,none⟩) ws.length ((ws).flatMap Nr),.blk b1 #[.int .i64 0,.int .i64 0,.int .i64 0,.int .i64 0,.int .i64 0,.int .i64 0,.int .i64 0,.int .i64 0,.int .i64 0,.int .i64 0,.int .i64 0] 53]) (n:=13) (listed:= #[false,false,false,false,false,false,false,false,false,false,false,false,false]) mixed rfl rfl ?_;refine ak (v:= .pointer (some ⟨b40,0,none⟩)) 0 rfl (St.del 2 pW) (λ_ _=>vH _ ap2) ?_;refine ak (v:= .pointer (some ⟨b18,x38.1,none⟩)) 1 rfl (St.del 2 pW) (λ_ ay3=>ylc 0 ay3 Tryz.underlying83) ?_;refine ak (v:= .slice (some ⟨b11,o12,none⟩) ws.length ws.length) 2 rfl (St.del 2 pW) (λ_ _=>ym) ?_;refine ak (v:= .int .i64 ((j:Nat):Int)) 3 rfl (St.del 2 pW) (λ_ _=>ym) ?_;refine ak (v:= .int .i64 ((j+1:Nat):Int)) 4 rfl (St.del 2 pW) (λ_ _=>(aC rfl rfl rfl (qY (by omega) (by omega)))) ?_;refine ak (v:= .pointer (some ⟨b11,o12+(j+1)*1,none⟩)) 5 rfl (St.del 2 pW) (λ_ _=>(aZ rfl rfl rfl (lJ (j+1) Tryz.underlying90 kQ (by omega) (by omega)))) ?_;refine ak (v:=str x46) 6 rfl (St.del 2 pW) (λ_ aav=>(ah rfl rfl (gU Tryz.underlying9 rfl (Rd.Xm (i:=0) (St.bI 2 aav rfl) (bU (enc:=Nr) (sz:=1) (λ_=>rfl) al4 rfl))))) ?_;refine aY 7 ?_;refine awD 7 rfl eQ (auc x46 hlu _ (he.on pW.low)) ?_;rintro _ w57 ⟨arP,rfl,T59⟩;refine ⟨_,rfl,?_⟩;have um:=pW.ext T59 rfl;clear T59 pW;change St _ _ _ [_,_,_,_,_] at um;refine ⟨(St.del 2 um),?_⟩;refine ak (v:= .tuple #[.int .i64 (pK x46),arP]) 8 rfl (St.del 2 um) (λ_ _=>ym) ?_;refine ak (v:= .int .i64 (pK x46)) 9 rfl (St.del 2 um) (λ_ _=>yx) ?_;refine ak (v:=arP) 10 rfl (St.del 2 um) (λ_ _=>yx) ?_;refine ak (v:= .pointer (some ⟨b18,x38.1,none⟩)) 11 rfl (St.del 2 um) (λ_ _=>abS rfl rfl trivial) ?_;refine aY 12 ?_;refine ai8 (i:=12) rfl rfl (v:= .int .i64 (pK x46)) (row':=kV (vV (mF p).ints (l.take (j+1)) (ws.tail.map pK))) 2 um (wn rfl) rfl rfl rfl rfl rfl rfl kQ rfl (by rw [lV (by rw [JU];rfl)];exact hlt.2.1) (by rw [WA,aaq hx39 hv]) ?_;intro Uc yN;clear um;change St _ _ _ [_,_,.blk b18 (kV (vV (mF p).ints (l.take (j+1)) (ws.tail.map pK))) 53,_,_] at yN;refine ⟨(St.del 2 yN),?_⟩;refine nY (by kernel_rfl) ?_;refine pk [2,3,4,22,23,24] ?_;refine dz (ay (av (vv (v:= .int .i64 ((j+1:Nat):Int)) (aC rfl rfl rfl (qY (by omega) (by omega))) ?_)));refine vm ?_;refine qk [2,3,4,22,23,24] ?_;have EX:St _ _ _ [_,_,_,_]:=yN.mg [0];clear yN;refine bT (j+1) ?_ ⟨rfl,rfl,rfl,rfl,rfl,rfl,trivial⟩ (by first | omega | (dsimp only;omega));exact ⟨(by omega),EX⟩
  refine vv (OQ h45) ?_;refine qk [2,3,4,22,23,24,9,8,33] ?_;refine ay (bZ rfl (fC (dz (ay ?_))));rw [<-aar (c:=(mF p).ints) (l:=l) (vs:=ws.tail.map pK) (j:=j) (by rw [List.length_map,List.length_tail];omega)] at yO;refine av (vv (v:= .int .i64 ((j+1:Nat):Int)) (aC rfl rfl rfl (qY (by omega) (by omega))) ?_);refine vm ?_;refine qk [2,3,4,22,23,24] ?_;have qO:St _ _ _ [_,_,_,_]:=yO.mg [0];clear yO;refine bT (j+1) ?_ ⟨rfl,rfl,rfl,rfl,rfl,rfl,trivial⟩ (by first | omega | (dsimp only;omega));exact ⟨(by omega),qO⟩
 refine vv (OQ h35) ?_;refine aT (ay (aA (bZ rfl (qH (dR (dR (jN (ay (aA ?_)))))))));obtain rfl:j=l.length:=by omega
 rw [List.take_length] at kE;obtain ⟨X,hX⟩: ∃ X,PG p l (ws.tail.map pK)=X:=⟨_,rfl⟩;rw [ae5,hX] at kE;change St _ _ _ [_,.blk b18 #[.int .i64 X.kd,.int .i64 X.nd,.int .i64 X.qu,.int .i64 X.at_,.int .i64 X.kp,.int .i64 X.ek,.int .i64 X.ep,.int .i64 X.ei,.int .i64 X.eb,.int .i64 X.eh,.int .i64 X.en] 53,_,_] at kE;refine av (vv (ylr 1 kE Tryz.underlying53 kQ) ?_);refine sa 3 kE kQ ?_;intro w68 tN;clear kE;refine qk [2] ?_;refine Ux (bQ (rs:=[.cell 2 53]) (vs:=[.agg #[.int .i64 X.kd,.int .i64 X.nd,.int .i64 X.qu,.int .i64 X.at_,.int .i64 X.kp,.int .i64 X.ek,.int .i64 X.ep,.int .i64 X.ei,.int .i64 X.eb,.int .i64 X.eh,.int .i64 X.en]]) rfl ⟨⟨_,rfl,dG 3 tN rfl Tryz.underlying53 rfl kQ⟩,trivial⟩ ?_);rw [aas hq hf,hX];exact ⟨rfl,tN.low⟩
def nW (l:List Ac):List UInt8:=l.flatMap λx=>jK x++[10]
theorem Ny: ∀ (l:List Ac) (k:Nat) (s:List UInt8),(∀ x∈l,aN x=0)->nU l k s=(s++nW l,0,0)
 | [],k,s,_=>by rw [nU];unfold nW;rw [List.flatMap_nil,List.append_nil]
 | x::l,k,s,h=>by
  rw [nU,if_neg (λc=>c (h x List.mem_cons_self)),Ny l (k+1) _ (λy hy=>h y (List.mem_cons_of_mem _ hy))];unfold nW;rw [List.flatMap_cons,List.append_assoc]
theorem KF: ∀ (l:List Ac),(∀ x∈l,aN x=0)->(nW l).length<=118*l.length
 | [],_=>Nat.zero_le _
 | x::l,h=>by
  have h1:=KF l λy hy=>h y (List.mem_cons_of_mem _ hy);have h2:=JN (h x List.mem_cons_self);unfold nW at h1⊢;simp only [List.flatMap_cons,List.length_append,List.length_cons,List.length_nil];omega
theorem Nz: ∀ (l L:List Ac),(∀ x∈l,aN x=0)->L.length+l.length<=100000->gF [] (nW l) L=(L++l,0,0)
 | [],L,_,_=>by unfold nW;rw [List.flatMap_nil,List.append_nil,gF,if_pos rfl]
 | x::l,L,h,hl=>by
  have h0:=h x List.mem_cons_self;rw [List.length_cons] at hl;have e:nW (x::l)=(jK x++[10])++nW l:=by unfold nW;rw [List.flatMap_cons]
  rw [e,Yc (.inl ⟨jK x,rfl,aaj h0⟩) (by omega) h0 rfl,Nz l (L++[x]) (λy hy=>h y (List.mem_cons_of_mem _ hy)) (by rw [List.length_append,List.length_singleton];omega),List.append_assoc,List.singleton_append]
theorem Tg {l:List Ac} (h: ∀ x∈l,aN x=0) (hl:l.length<=1000):Pj l=(nW l,0,0):=by
 unfold Pj;rw [if_neg (by omega),Ny l 0 [] h,List.nil_append]
theorem Ti {l:List Ac} (h: ∀ x∈l,aN x=0) (hl:l.length<=1000):zh (nW l)=(l,0,0):=by
 have:=KF l h;unfold zh;rw [if_neg (by omega),Nz l [] h (by rw [List.length_nil];omega),List.nil_append]
end Go.Proofs.YtcomidffhiilcaaGreatDoor
