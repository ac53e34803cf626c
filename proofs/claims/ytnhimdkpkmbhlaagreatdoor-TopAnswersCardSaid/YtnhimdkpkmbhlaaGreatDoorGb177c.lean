import Derived.Test.YtnhimdkpkmbhlaaGreatDoorCards
import Derived.Test.YtnhimdkpkmbhlaaGreatDoorTie
import Derived.Deep.DeepHandedRow
import Derived.Lib.LaidTab
import Derived.Test.YtnhimdkpkmbhlaaGreatDoorG9daf5
set_option maxRecDepth 100000
set_option maxHeartbeats 8000000
set_option linter.unusedSimpArgs false
set_option linter.unusedVariables false
namespace Go.Proofs.YtnhimdkpkmbhlaaGreatDoor
section
open ChangeShapes WideShapes ChangeAt RowKit
theorem afC:ownKnob Tryz.prog.godebug=none:=by kernel_rfl
theorem ach:Tryz.prog.globalNamed "berthshift/directory.nowhere" =some 0:=by kernel_rfl
theorem NJ:(Tryz.prog.globals[0]?).map (·.type)=some 27:=by kernel_rfl
theorem lt_of_cell {w:World} {p:Addr} {u:Value} (h:w.cell? p=some u):p.block<w.heap.size:=by
 rcases Nat.lt_or_ge p.block w.heap.size with h1 | h1
 ·exact h1
 have h2:w.heap[p.block]? =none:=Array.getElem?_eq_none h1;simp [World.cell?,h2] at h
section
variable {H:Type} {enc:TypeId×Value->H} {P:Program}
theorem JU {f:FuncId} {fn:Func} {s:ChangeSpec} {bt:TypeId} (hts:VF P fn.params.toList=true) (hvars:s.vars=[]) (hres:fn.resultTypes= #[bt]) (hbt:P.underlying bt=some .bool)
  (hs: ∀ ds:List (DataW H),ds.length=fn.params.toList.length->s.fn H ds={ results:=[.lit (.bool true)],args:=ds })
  (W:World) (base:Nat) (args:Array Value) (ds gs:List (DataW H)) (before:List MemPlace)
  (walk:eu (Sy P W) args.toList fn.params.toList->Calls P f args W λe W'=>e= .returned (.bool true)/\Below W.heap.size W W')
  (hval: ∀ (j:Nat) t v,fn.params[j]? =some t->args[j]? =some v->Value.okWide P W .any base t v)
  (hW:DataW.Whole enc P fn.params.toList s.vars false W args.toList ds gs before)
  (hz:(DataW.weightsEach P (fn.params.toList++s.plain.varTypes P) (ds++gs)).all (· <=reachBytes)=true):
  Calls P f args W λe W'=> ∃ v,e= .returned v/\s.post enc P fn false true false false W args v W':=by
 simp only [VF,Bool.and_eq_true,List.all_eq_true,decide_eq_true_eq] at hts;obtain ⟨hl,hts⟩:=hts;have hW':=hW;have hlt:=hW.lt;obtain ⟨p,q,hA,hV,rfl,_,_⟩:=hW;rw [hvars] at hV;have hg:gs=[]/\q=[]:=by
  cases gs with
  | nil=>exact ⟨rfl,hV⟩
  | cons g gs=>exact hV.elim
 obtain ⟨rfl,rfl⟩:=hg;have hvt:s.plain.varTypes P=[]:=by unfold DataSpec.varTypes ChangeSpec.plain;simp [hvars]
 rw [hvt,List.append_nil,List.append_nil] at hz;have hzz: ∀ b∈DataW.weightsEach P fn.params.toList ds,b<=reachBytes:=λb hb=>by simpa using List.all_eq_true.1 hz b hb
 have hargs:=VE hA (λj t v h1 h2=>hval j t v (by simpa using h1) (by simpa using h2)) (λt ht=>(hts t ht).1.1) hzz (λx hx=>hlt x (List.mem_append.2 (.inl hx)));have hlen:ds.length=fn.params.toList.length:=by
  have: ∀ {ts:List TypeId} {vs:List Value} {ds:List (DataW H)} {ps:List MemPlace},DataW.TrodAll enc P W 0 (λ_=>true) true ts vs ds ps->ds.length=ts.length:=by
   intro ts
   induction ts with
   | nil=>intro vs ds ps h;obtain ⟨_,rfl,_⟩:=trodAll_nil h;rfl
   | cons t ts ih=>
    intro vs ds ps h;obtain ⟨v,vs',d,ds',p,q,rfl,rfl,rfl,h0,h1⟩:=trodAll_cons h;simp [ih h1]
  exact this hA
 refine (walk hargs).mono λe W' ⟨he,hb⟩=>?_;have hsd:=hs (ds++[]) (by simpa using hlen);refine ⟨_,he,ds,[],p++[],[],p,[],hW',?_,?_,?_,hb.frame _,λh=>by cases h⟩
 ·rw [hsd,hres];exact trodAll_mk1 (shut_bool hbt true)
 ·rw [hsd];simp only [List.append_nil];exact Bo hl hb hA (λt ht=>⟨(hts t ht).1.2,(hts t ht).2⟩) (λx hx=>hlt x (List.mem_append.2 (.inl hx)))
 rw [hsd,hvars];simp [DataW.TrodVars]
end
end
section
open ChangeShapes WideShapes RowKit
def aci (w:World) (e:Ending) (w':World):Prop:=e= .returned (.agg #[.int .i64 (-1),.int .i64 0,.int .i64 (-1),.int .i64 0,.int .i64 (-1),.int .i64 0,.int .i64 (-1),.int .i64 0])/\Below w.heap.size w w'
def Ki:Nat->Array Value
 | 0=> #[.int .i64 0,.int .i64 0,.int .i64 0,.int .i64 0,.int .i64 0,.int .i64 0,.int .i64 0,.int .i64 0]
 | k+1=>((Ki k).setIfInBounds (k*2) (.int .i64 (-1))).setIfInBounds (k*2+1) (.int .i64 0)
theorem UF (k:Nat):(Ki k).size=8:=by
 induction k with
 | zero=>rfl
 | succ k ih=>simp [Ki,ih]
theorem Lh (k j:Nat) (hj:j<8): ∃ u,(Ki k)[j]? =some u:=⟨_,Array.getElem?_eq_getElem (by rw [UF];exact hj)⟩
theorem UG (w:World) (hn:Nw w):Calls Tryz.prog 50 #[] w (aci w):=by
 have HN:=Lib.hid hn;clear hn
 go_enter Tryz.func50,Tryz.ntmps50
 go_wp2_with fail
 go_loopw [3] (λi wr=> ∃ k:Nat,k<=4/\i= .int .i64 k/\fK wr w.heap.size #[.int .i64 0,.int .i64 0,.int .i64 0,.int .i64 0,.int .i64 0,.int .i64 0,.int .i64 0,.int .i64 0] 30/\fK wr (w.heap.size+1) (Ki k) 30/\Below w.heap.size w wr) (λi _=>4-(intOf i).toNat)
 case atStart=>exact ⟨0,by omega,rfl,(fK.new _ _ _).alloc _,fK.new1 _ _ _ _,by go_grown⟩
 case round=>
  obtain ⟨k,hk,rfl,h0,h1,hb⟩:=hrel;have hsz:w.heap.size<=wr.heap.size:=hb.size;have H0:=Lib.hid h0;have H1:=Lib.hid h1;have HB:=Lib.hid hb;by_cases hlt:k<4
  ·obtain ⟨g0,g1,g2⟩:=HN.out.on hb;obtain ⟨u,hu⟩:=Lh k (k*2) (by omega);obtain ⟨u',hu'⟩:=Lh k (k*2+1) (by omega);have c0:=h1.cell hu;have c1:=h1.cell hu';have cf:=h1.free;clear h0 h1 hb hu hu'
   go_wp2_with fail
   go_roundw
   case rel=>
    have hB:=HB.out;exact ⟨k+1,by omega,by go_num,(H0.out.other _ (by simp) _).other _ (by simp) _,(H1.out.uM _ _).uM _ _,by go_grown⟩
   case measure=>simp [intOf];omega
  obtain rfl:k=4:=by omega
  have e4:Ki 4= #[.int .i64 (-1),.int .i64 0,.int .i64 (-1),.int .i64 0,.int .i64 (-1),.int .i64 0,.int .i64 (-1),.int .i64 0]:=rfl;rw [e4] at h1;clear e4;obtain ⟨c0,c1,c2,c3,c4,c5,c6,c7,cf⟩:=h1.Ar;obtain ⟨r0,r1,r2,r3,r4,r5,r6,r7,rf⟩:=h0.Ar;clear h0 h1 H1
  go_wp2_with fail
  refine bodyPost_ret (v:= .agg #[.int .i64 (-1),.int .i64 0,.int .i64 (-1),.int .i64 0,.int .i64 (-1),.int .i64 0,.int .i64 (-1),.int .i64 0]) (by simp [results,Tryz.results50,go_sem,r0,r1,r2,r3,r4,r5,r6,r7]) rfl ?_;have hB:=HB.out;exact ⟨rfl,by go_grown⟩
end
end Go.Proofs.YtnhimdkpkmbhlaaGreatDoor
