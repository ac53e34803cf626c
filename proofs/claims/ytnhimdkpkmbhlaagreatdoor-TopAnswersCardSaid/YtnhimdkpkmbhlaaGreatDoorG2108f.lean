import Derived.ChangeKeysEq
import Derived.Test.YtnhimdkpkmbhlaaGreatDoorG7ba5b
set_option maxRecDepth 100000
set_option maxHeartbeats 8000000
set_option linter.unusedSimpArgs false
set_option linter.unusedVariables false
namespace Go.Proofs.YtnhimdkpkmbhlaaGreatDoor
open ChangeShapes WideShapes RowKit
def yh:Value->Value->Bool
 | .int _ a,.int _ b=>a==b
 | .bool a,.bool b=>a==b
 | .string a,.string b=>a.toList==b.toList
 | _,_=>false
def dW:List Value->List Value->Bool
 | [],[]=>true
 | a::l,b::k=>yh a b&&dW l k
 | _,_=>false
theorem tX: ∀ {l l' k k':List Value},l.length=l'.length->dW (l++k) (l'++k')=(dW l l'&&dW k k')
 | [],[],_,_,_=>by simp [dW]
 | a::l,b::l',k,k',h=>by
  simp only [List.cons_append,dW];rw [tX (by simpa using h),Bool.and_assoc]
 | [],_::_,_,_,h=>by simp at h
 | _::_,[],_,_,h=>by simp at h
def Es (P:Program):Nat->TypeId->Bool
 | 0,_=>false
 | n+1,t=>
  match P.underlying t with
  | some (.int _) | some .bool | some .string=>true
  | some (.struct fs)=> !P.stoodInHeld t&&fs.toList.all λf=>f.name != "_" &&Es P n f.type
  | some (.array _ e)=>Es P n e
  | _=>false
def Kd (v:Value):Sh->Prop
 | .at_ (.int k)=> ∃ n,v= .int k n
 | .at_ .bool=> ∃ b,v= .bool b
 | .at_ .str=> ∃ s,v= .string s
 | .sl _ _=>False
def Dr (u:TypeDesc) (n:Nat):Prop:=match u with | .struct _=>True | .array _ _=>True | _=>n=1
def mkV (P:Program) (t:TypeId) (xs:List Value):Value:=
 match P.underlying t with
 | some (.struct _) | some (.array _ _)=> .agg xs.toArray
 | _=>xs.headD undef
section
variable {P:Program} (w:World)
theorem qW {t:TypeId} {u:TypeDesc} (hu:P.underlying t=some u) {xs:List Value} {off:Nat} (h:off+P.cellsOf t<=xs.length) (h1:Dr u (P.cellsOf t)):
    (part t xs.toArray off).run P w= .ok (mkV P t ((xs.drop off).take (P.cellsOf t))) w:=by
  have hi: ∃ i,P.info? t=some i:=by
    unfold Program.underlying at hu
    cases hh:P.info? t with
    | none=>simp [hh] at hu
    | some i=>exact ⟨i,rfl⟩
  obtain ⟨i,hi⟩:=hi;have hc:P.cellsOf t=i.size:=by simp [Program.cellsOf,hi]
  have hx:(xs.toArray.extract off (off+i.size))=((xs.drop off).take i.size).toArray:=by
    simp [List.extract_toArray]
  have plain:P.cellsOf t=1->(xs.toArray[off]?)=some (((xs.drop off).take (P.cellsOf t)).headD undef):=by
    intro h1;rw [h1];have:off<xs.length:=by omega
    have e:(xs.drop off).take 1=[xs[off]]:=by rw [List.drop_eq_getElem_cons this];rfl
    rw [e];simp [this]
  unfold part isAgg mkV
  cases u<;>simp only [Dr] at h1<;>first
    | (have h2:=plain h1
       simp only [Sem.run_bind,run_underlying hu,Result.andThen_ok,Sem.run_pure,Bool.false_eq_true,if_false,h2,hu])
    | (simp only [Sem.run_bind,run_underlying hu,Result.andThen_ok,Sem.run_pure,if_true,hu,sizeOf,typeInfo,hc]
       simp [hi])
theorem I7 {n:Nat} {t:TypeId} {l:List Sh} (h:flat P (n+1) t=some l): ∃ u,P.underlying t=some u/\Dr u l.length:=by
  unfold flat at h
  cases hu:P.underlying t with
  | none=>simp [hu] at h
  | some u=>
    refine ⟨u,rfl,?_⟩;unfold Dr
    cases u<;>simp only [hu] at h<;>first
      | trivial
      | (simp at h;done)
      | (simp at h;subst h;rfl)
      | (simp only [Option.bind_eq_some_iff] at h
         obtain ⟨a,_,b,_,h⟩:=h
         split at h
         · simp at h;subst h;rfl
         · simp at h)
theorem CF {xs:List Value}: ∀ {l k:List Sh},eu Kd xs (l++k)->eu Kd (xs.take l.length) l/\eu Kd (xs.drop l.length) k:=by
 intro l
 induction l generalizing xs with
 | nil=>intro k h;exact ⟨by simp [eu],by simpa using h⟩
 | cons s l ih=>
  intro k h;obtain ⟨a,l1,rfl,ha,h2⟩:=eu.xP h;obtain ⟨h3,h4⟩:=ih h2;exact ⟨⟨ha,h3⟩,h4⟩
def EqT (P:Program) (d:Nat) (t:TypeId) (l:List Sh):Prop:=
 ∀ (w:World) (xs ys:List Value),eu Kd xs l->eu Kd ys l->(Op.equalIn d t (mkV P t xs) (mkV P t ys)).run P w= .ok (dW xs ys) w
theorem I8 {d:Nat} {xs ys:List Value}: ∀ (fs:List Field) (ls:List (List Sh)) (o:Nat),nK P fs ls o=true->
  (∀ (i:Nat) (f:Field) (l:List Sh),fs[i]? =some f->ls[i]? =some l->f.name≠ "_" /\EqT P d f.type l/\ ∃ u,P.underlying f.type=some u/\Dr u l.length)->
  o<=xs.length->o<=ys.length->eu Kd (xs.drop o) ls.flatten->eu Kd (ys.drop o) ls.flatten->
  (Op.eqFields d xs.toArray ys.toArray fs).run P w= .ok (dW (xs.drop o) (ys.drop o)) w
 | [],[],o,_,_,_,_,hx,hy=>by
  rw [eu.vS hx,eu.vS hy];simp [Op.eqFields,dW]
 | f::fs,l::ls,o,h,hp,ox,oy,hx,hy=>by
  simp only [nK,Bool.and_eq_true,beq_iff_eq] at h;obtain ⟨⟨h1,h2⟩,h3⟩:=h;obtain ⟨hn,he,u,hu,hu1⟩:=hp 0 f l rfl rfl;simp only [List.flatten_cons] at hx hy;obtain ⟨hx1,hx2⟩:=CF hx;obtain ⟨hy1,hy2⟩:=CF hy;rw [List.drop_drop] at hx2 hy2;have hlx:o+l.length<=xs.length:=by
   have e1:=hx1.len;simp only [List.length_take,List.length_drop] at e1;omega
  have hly:o+l.length<=ys.length:=by
   have e1:=hy1.len;simp only [List.length_take,List.length_drop] at e1;omega
  have hr:=I8 fs ls (o+l.length) h3 (λi f' l' hf hl=>hp (i+1) f' l' (by simpa using hf) (by simpa using hl)) hlx hly hx2 hy2;have hu2:Dr u (P.cellsOf f.type):=by
   rw [h2];exact hu1
  have p1:=qW (P:=P) w hu (xs:=xs) (off:=f.offset) (by omega) hu2;have p2:=qW (P:=P) w hu (xs:=ys) (off:=f.offset) (by omega) hu2;rw [h1,h2] at p1 p2;have p3:=he w _ _ hx1 hy1;have e1:dW (xs.drop o) (ys.drop o)=(dW ((xs.drop o).take l.length) ((ys.drop o).take l.length)&&dW (xs.drop (o+l.length)) (ys.drop (o+l.length))):=by
   rw [<-List.drop_drop,<-List.drop_drop,<-tX (by simp;omega),List.take_append_drop,List.take_append_drop]
  simp only [Op.eqFields,hn,ne_eq,not_false_eq_true,if_true,Sem.run_bind,h1,p1,p2,p3,Result.andThen_ok];rw [e1]
  cases hb:dW ((xs.drop o).take l.length) ((ys.drop o).take l.length)
  ·simp
  simpa using hr
 | [],_::_,_,h,_,_,_,_,_=>by simp [nK] at h
 | _::_,[],_,h,_,_,_,_,_=>by simp [nK] at h
theorem K4 {d:Nat} {e:TypeId} {l:List Sh} {xs ys:List Value} (he:EqT P d e l) (hc:P.cellsOf e=l.length) {u:TypeDesc} (hu:P.underlying e=some u)
  (hu1:Dr u l.length): ∀ (m i:Nat),
  eu Kd (xs.drop (i*l.length)) (List.replicate m l).flatten->eu Kd (ys.drop (i*l.length)) (List.replicate m l).flatten->
  (Op.eqItems d e (P.cellsOf e) xs.toArray ys.toArray (List.range' i m)).run P w= .ok (dW (xs.drop (i*l.length)) (ys.drop (i*l.length))) w
 | 0,i,hx,hy=>by
  rw [eu.vS hx,eu.vS hy];simp [Op.eqItems,dW]
 | m+1,i,hx,hy=>by
  rw [List.replicate_succ,List.flatten_cons] at hx hy;obtain ⟨hx1,hx2⟩:=CF hx;obtain ⟨hy1,hy2⟩:=CF hy;rw [List.drop_drop,<-Nat.succ_mul] at hx2 hy2;have hr:=K4 he hc hu hu1 m (i+1) hx2 hy2;have hu2:Dr u (P.cellsOf e):=by
   rw [hc];exact hu1
  have hlx:i*l.length+l.length<=xs.length\/l.length=0:=by
   have e1:=hx1.len;simp only [List.length_take,List.length_drop] at e1;omega
  have hly:i*l.length+l.length<=ys.length\/l.length=0:=by
   have e1:=hy1.len;simp only [List.length_take,List.length_drop] at e1;omega
  by_cases h0:l.length=0
  ·have hl:l=[]:=List.eq_nil_of_length_eq_zero h0;subst hl;have hz:(List.replicate m ([]:List Sh)).flatten=[]:=by simp
   rw [hz] at hx2 hy2;simp only [List.length_nil,Nat.mul_zero,List.drop_zero] at*;have ex:=eu.vS hx2;have ey:=eu.vS hy2;subst ex;subst ey;have p1:=qW (P:=P) w hu (xs:=[]) (off:=0) (by rw [hc];simp) hu2;simp only [List.drop_nil,List.take_nil] at p1;have p3:=he w [] [] trivial trivial;simp only [List.range'_succ,Op.eqItems,Sem.run_bind,hc,Nat.mul_zero,p1,p3,Result.andThen_ok];rw [hc] at hr;simpa [dW] using hr
  have p1:=qW (P:=P) w hu (xs:=xs) (off:=i*l.length) (by omega) hu2;have p2:=qW (P:=P) w hu (xs:=ys) (off:=i*l.length) (by omega) hu2;rw [hc] at p1 p2;have p3:=he w _ _ hx1 hy1;have e1:dW (xs.drop (i*l.length)) (ys.drop (i*l.length))=(dW ((xs.drop (i*l.length)).take l.length) ((ys.drop (i*l.length)).take l.length)&&dW (xs.drop ((i+1)*l.length)) (ys.drop ((i+1)*l.length))):=by
   rw [Nat.succ_mul,<-List.drop_drop,<-List.drop_drop,<-tX (by simp;omega),List.take_append_drop,List.take_append_drop]
  simp only [List.range'_succ,Op.eqItems,Sem.run_bind,hc,p1,p2,p3,Result.andThen_ok];rw [e1];rw [hc] at hr
  cases hb:dW ((xs.drop (i*l.length)).take l.length) ((ys.drop (i*l.length)).take l.length)
  ·simp
  simpa using hr
theorem K5: ∀ (n:Nat) (t:TypeId) (l:List Sh) (d:Nat),flat P n t=some l->Es P n t=true->n<=d->EqT P d t l
 | 0,_,_,_,h,_,_=>by simp [flat] at h
 | n+1,t,l,0,_,_,h=>by omega
 | n+1,t,l,d+1,hf,ho,hd=>by
  intro w xs ys hx hy;unfold flat at hf;unfold Es at ho
  cases hu:P.underlying t with
  | none=>simp [hu] at hf
  | some u=>
   cases u<;>simp only [hu] at hf ho<;>try (simp at hf;done)
   case bool=>
    simp at hf;subst hf;obtain ⟨a,l1,rfl,⟨p,rfl⟩,h2⟩:=eu.xP hx;obtain ⟨b,l2,rfl,⟨q,rfl⟩,h3⟩:=eu.xP hy;rw [eu.vS h2,eu.vS h3];simp [mkV,hu,Op.equalIn,run_underlying hu,dW,yh]
   case int k=>
    simp at hf;subst hf;obtain ⟨a,l1,rfl,⟨p,rfl⟩,h2⟩:=eu.xP hx;obtain ⟨b,l2,rfl,⟨q,rfl⟩,h3⟩:=eu.xP hy;rw [eu.vS h2,eu.vS h3];simp [mkV,hu,Op.equalIn,run_underlying hu,dW,yh]
   case string=>
    simp at hf;subst hf;obtain ⟨a,l1,rfl,⟨p,rfl⟩,h2⟩:=eu.xP hx;obtain ⟨b,l2,rfl,⟨q,rfl⟩,h3⟩:=eu.xP hy;rw [eu.vS h2,eu.vS h3];simp [mkV,hu,Op.equalIn,run_underlying hu,dW,yh,beq_toListBytes]
   case slice e=>simp at ho
   case array m e=>
    simp only [Option.bind_eq_some_iff] at hf;obtain ⟨le,hle,hif⟩:=hf
    split at hif
    ·rename_i hok
     simp only [Bool.and_eq_true,beq_iff_eq] at hok;simp at hif;subst hif;have ih:=K5 n e le d hle ho (by omega);have hn: ∃ k,n=k+1:=by
      cases n with
      | zero=>simp [flat] at hle
      | succ k=>exact ⟨k,rfl⟩
     obtain ⟨k,rfl⟩:=hn;obtain ⟨u,hue,hu1⟩:=I7 hle;have hi: ∃ i,P.info? e=some i:=by
      unfold Program.underlying at hue
      cases hh:P.info? e with
      | none=>simp [hh] at hue
      | some i=>exact ⟨i,rfl⟩
     obtain ⟨i,hi⟩:=hi;have h:=K4 (P:=P) w ih hok.1 hue hu1 (xs:=xs) (ys:=ys) m 0 (by simpa using hx) (by simpa using hy);simp only [mkV,hu];rw [run_equalIn_array w d _ _ hu hi,List.range_eq_range',h];simp
    simp at hif
   case struct fs=>
    simp only [Option.bind_eq_some_iff] at hf;obtain ⟨ls,hls,hif⟩:=hf
    split at hif
    ·rename_i hok
     simp only [Bool.and_eq_true,beq_iff_eq] at hok;simp at hif;subst hif;simp only [Bool.and_eq_true,Bool.not_eq_true',List.all_eq_true,bne_iff_ne,ne_eq] at ho;have hfs:P.fieldsOf t=fs:=by simp [Program.fieldsOf,hu]
     have h:=I8 (P:=P) w (d:=d) (xs:=xs) (ys:=ys) fs.toList ls 0 hok.1 (λi f l' hfi hli=>by
      have hmem:f∈fs.toList:=List.mem_of_getElem? hfi;have h3:=mapM_some_get hls i f hfi;rw [hli] at h3;have hn: ∃ k,n=k+1:=by
       cases n with
       | zero=>simp [flat] at h3
       | succ k=>exact ⟨k,rfl⟩
      obtain ⟨k,rfl⟩:=hn;exact ⟨(ho.2 f hmem).1,K5 (k+1) f.type l' d h3 (ho.2 f hmem).2 (by omega),I7 h3⟩) (Nat.zero_le _) (Nat.zero_le _) (by simpa using hx) (by simpa using hy)
     simp only [mkV,hu];rw [run_equalIn_struct w d t _ _ (by rw [hfs];exact hu) ho.1,hfs,h];simp
    simp at hif
theorem vC {t:TypeId} {l:List Sh} (hf:flat P 30 t=some l) (ho:Es P 30 t=true) (ha: ∀ xs,mkV P t xs= .agg xs.toArray) {xs ys:List Value} (hx:eu Kd xs l) (hy:eu Kd ys l):
  (binOp .eql t (.agg xs.toArray) (.agg ys.toArray)).run P w= .ok (.bool (dW xs ys)) w:=by
 rw [run_eql_struct];have h:=K5 30 t l 10000 hf ho (by omega) w xs ys hx hy;rw [ha,ha] at h;rw [h];rfl
theorem vD {t:TypeId} {l:List Sh} (hf:flat P 30 t=some l) (ho:Es P 30 t=true) (ha: ∀ xs,mkV P t xs= .agg xs.toArray) {xs ys:List Value} (hx:eu Kd xs l) (hy:eu Kd ys l):
  (binOp .neq t (.agg xs.toArray) (.agg ys.toArray)).run P w= .ok (.bool (!dW xs ys)) w:=by
 rw [run_neq_struct];have h:=K5 30 t l 10000 hf ho (by omega) w xs ys hx hy;rw [ha,ha] at h;rw [h];rfl
end
structure Ev where
 kind:Int
 producer:Int
 id:Int
 body:Int
 aQ:Int
 hno:Int
 deriving DecidableEq
def Ev.cells (e:Ev):List Value:=[iV e.kind,iV e.producer,iV e.id,iV e.body,iV e.aQ,iV e.hno]
theorem Ev.ab3 (a b:Ev):dW a.cells b.cells=decide (a=b):=by
 obtain ⟨a1,a2,a3,a4,a5,a6⟩:=a;obtain ⟨b1,b2,b3,b4,b5,b6⟩:=b;simp only [Ev.cells,dW,yh,Ev.mk.injEq,Bool.and_true];rw [Bool.eq_iff_iff];simp
def anR:List Sh:=[.at_ (.int .i64),.at_ (.int .i64),.at_ (.int .i64),.at_ (.int .i64),.at_ (.int .i64),.at_ (.int .i64)]
theorem afw:flat Tryz.prog 30 55=some anR:=by kernel_rfl
theorem afx:Es Tryz.prog 30 55=true:=by kernel_rfl
theorem ak3 (xs:List Value):mkV Tryz.prog 55 xs= .agg xs.toArray:=by
 unfold mkV;rw [Tryz.underlying55]
theorem Ev.kd (a:Ev):eu Kd a.cells anR:=⟨⟨_,rfl⟩,⟨_,rfl⟩,⟨_,rfl⟩,⟨_,rfl⟩,⟨_,rfl⟩,⟨_,rfl⟩,trivial⟩
theorem qw (a b:Ev) (w:World):(binOp .neq 55 (.agg #[iV a.kind,iV a.producer,iV a.id,iV a.body,iV a.aQ,iV a.hno])
  (.agg #[iV b.kind,iV b.producer,iV b.id,iV b.body,iV b.aQ,iV b.hno])).run Tryz.prog w= .ok (.bool (!decide (a=b))) w:=by
 rw [<-Ev.ab3];exact vD (P:=Tryz.prog) w afw afx ak3 a.kd b.kd
def Ev.val (e:Ev):Value:= .agg #[iV e.kind,iV e.producer,iV e.id,iV e.body,iV e.aQ,iV e.hno]
end Go.Proofs.YtnhimdkpkmbhlaaGreatDoor
