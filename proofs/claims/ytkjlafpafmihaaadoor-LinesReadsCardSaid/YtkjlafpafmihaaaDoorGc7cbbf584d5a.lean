/- Parts of proofs: lemmas on memory, on single functions and on the plain models; no condition of their own. -/
import Derived.Test.YtkjlafpafmihaaaDoorRows
import Derived.WalkKit
import Derived.ProofKit
import Derived.OpenShut
import Derived.SizedLaws
import Derived.WalkSpells
import Derived.WalkLawsBesides
import Derived.Handy
import Derived.Deep.QuietTactic
import Derived.BigQuiet
import Derived.Lib.Hide
import Derived.Maps.AppendAt
import Derived.Deep.AppendLies
import Derived.RegionTactic
import Derived.OwnWalk
import Derived.Laws.Tables
import Derived.Deep.MidRow
import Derived.StillTailTactics
import Derived.OrdersHeld
import Derived.Deep.RegionHeld3
import Derived.Laws.IdiomCopy
import Derived.ChangeKeysEq
import Derived.Laws.BitsAllLaws
import Derived.Scope
import Derived.Lib.AppendStr
import Derived.Lib.ItoaLen
import Derived.Lib.BufferRead
import Derived.Laws.IdiomStrings
import Derived.Lib.Builder
import Derived.Shelf.Strings.Builder1
import Derived.Shelf.LaysM
import Derived.Shelf.Strconv.Itoa3
import Derived.Lib.ItoaMem
import Derived.Lib.AppendIntMem
import Derived.Lib.QuietBelow
import Derived.Shelf.Strings.Search1
import Derived.Shelf.Small.Strs
import Derived.Shelf.Strings.Prefix
import Derived.Shelf.Strings.SplitShaped
import Derived.Shelf.Strconv.AtoiAll
import Derived.Shelf.LaysC
import Derived.Lib.SplitLaws
import Derived.Lib.AtoiAllCases
import Derived.Lib.IndexLaws
import Derived.Laws.Strings2
import Derived.Laws.Strings3
import Derived.Laws.Slices
import Derived.RangeFuncIn
import Derived.RangeFuncLeaves
import Derived.RangeFuncRecord
import Derived.RangeFuncCalls
import Derived.OrdersIn
import Derived.Test.YtkjlafpafmihaaaDoorG0e6854d461dd
import Derived.Test.YtkjlafpafmihaaaDoorG173045c9580a
import Derived.Test.YtkjlafpafmihaaaDoorG3606cc3ac865
import Derived.Test.YtkjlafpafmihaaaDoorG56c47c18b150
import Derived.Test.YtkjlafpafmihaaaDoorG8853775e7979
import Derived.Test.YtkjlafpafmihaaaDoorG8c37540fe402
import Derived.Test.YtkjlafpafmihaaaDoorG97f8767f7743
import Derived.Test.YtkjlafpafmihaaaDoorGa487125d06f9
import Derived.Test.YtkjlafpafmihaaaDoorGa57fdb9d3cfe
import Derived.Test.YtkjlafpafmihaaaDoorGa6cfea583cdc
import Derived.Test.YtkjlafpafmihaaaDoorGab8ecdf11465
import Derived.Test.YtkjlafpafmihaaaDoorGc8b71f3bd5a6
import Derived.Test.YtkjlafpafmihaaaDoorGd3cfdc1357eb
import Derived.Test.YtkjlafpafmihaaaDoorGe57d517d0a67
import Derived.Test.YtkjlafpafmihaaaDoorGea90f12dfe92
import Derived.Test.YtkjlafpafmihaaaDoorGedcf6e6df767
import Derived.Test.YtkjlafpafmihaaaDoorGfe753c0b6274
set_option linter.unusedVariables false
set_option linter.unusedSimpArgs false

namespace Go.Proofs.YtkjlafpafmihaaaDoor
open Go.ChangeShapes Go.WideShapes Go.RowKit
/-! ### Lines -/
def LineOf (s rest : List UInt8) : Prop := (∃ cur, s = cur ++ [10] ∧ ∀ c ∈ cur, c ≠ 10) ∨ (s ≠ [] ∧ (∀ c ∈ s, c ≠ 10) ∧ rest = [])
section
variable {s rest t : List UInt8} {L : List Ac} {a : Ac}
theorem read_full {cur : List UInt8} (h : ∀ c ∈ cur, c ≠ 10) : readC [] (cur ++ [10] ++ rest) L = if L.length = 100000 then ([], 100000, 14) else match lineRef cur with
    | none => ([], L.length, 3)
    | some x => readC [] rest (L ++ [x]) := by
  rw [List.append_assoc, readC_app cur [] _ L h, List.nil_append, List.singleton_append, readC, if_pos rfl]
  cases lineRef cur <;> rfl
theorem read_rest (h : ∀ c ∈ s, c ≠ 10) (hs : s ≠ []) : readC [] (s ++ []) L = if L.length = 100000 then ([], 100000, 14) else ([], L.length, 3) := by
  rw [readC_app s [] [] L h, List.nil_append, readC, if_neg hs]
theorem line_full (h : LineOf s rest) (hL : L.length = 100000) : readC [] (s ++ rest) L = ([], L.length, 14) := by
  rcases h with ⟨cur, rfl, hc⟩ | ⟨hs, hc, rfl⟩
  · rw [read_full hc, if_pos hL, hL]
  · rw [read_rest hc hs, if_pos hL, hL]
theorem line_bad (h : LineOf s rest) (hL : ¬ L.length = 100000) (ha : actM (wordsC [] (trimM s)) = a) (hb : ¬ (actFault a = 0 ∧ lineB a ++ [10] = s)) : readC [] (s ++ rest) L = ([], L.length, 3) := by
  rcases h with ⟨cur, rfl, hc⟩ | ⟨hs, hc, rfl⟩
  · rw [read_full hc, if_neg hL]
    rw [trim_nl] at ha
    cases hr : lineRef cur with
    | none => rfl
    | some x =>
      obtain ⟨h1, h2, h3⟩ := take_line hr
      rw [ha] at h1
      subst h1
      exact absurd ⟨h2, by rw [h3]⟩ hb
  · rw [read_rest hc hs, if_neg hL]
theorem line_ok (h : LineOf s rest) (hL : ¬ L.length = 100000) (h0 : actFault a = 0) (h1 : lineB a ++ [10] = s) : readC [] (s ++ rest) L = readC [] rest (L ++ [a]) := by
  rcases h with ⟨cur, rfl, hc⟩ | ⟨hs, hc, rfl⟩
  · rw [read_full hc, if_neg hL]
    have hcur : lineB a = cur := List.append_cancel_right h1
    rw [drop_line h0 hcur]
  · exfalso
    subst h1
    exact hc 10 (by simp) rfl
theorem cut_pos {i : Nat} (h : Lib.indexByte t 10 = i) : i + 1 ≤ t.length ∧ LineOf (t.take (i + 1)) (t.drop (i + 1)) := by
  obtain ⟨h1, h2⟩ := Lib.indexByte_some h
  have hi : i < t.length := (List.getElem?_eq_some_iff.1 h1).1
  refine ⟨hi, .inl ⟨t.take i, ?_, fun c hc e => ?_⟩⟩
  · rw [List.take_add_one, h1]; rfl
  · subst e
    obtain ⟨k, hk, hck⟩ := List.getElem_of_mem hc
    have hk2 : k < i := by rw [List.length_take] at hk; omega
    refine h2 k hk2 ?_
    rw [List.getElem_take] at hck
    rw [List.getElem?_eq_getElem (by omega), hck]
theorem cut_neg (h : ¬ 0 ≤ Lib.indexByte t 10) (ht : t ≠ []) : LineOf t [] := by
  have hg := Lib.indexByte_ge t 10
  have hn := Lib.indexByte_none (show Lib.indexByte t 10 = -1 by omega)
  refine .inr ⟨ht, fun c hc e => ?_, rfl⟩
  subst e
  obtain ⟨k, hk, hck⟩ := List.getElem_of_mem hc
  exact hn k (by rw [List.getElem?_eq_getElem hk, hck])
end
theorem words_len : ∀ (t cur : List UInt8), ∀ v ∈ wordsC cur t, v.length ≤ cur.length + t.length
  | [], cur, v, h => by simp [wordsC] at h; subst h; simp
  | c :: t, cur, v, h => by
    rw [wordsC] at h
    split at h
    · rcases List.mem_cons.1 h with rfl | h
      · rw [List.length_cons]; omega
      · have := words_len t [] v h
        rw [List.length_cons]
        simp at this
        omega
    · have := words_len t _ v h
      rw [List.length_append, List.length_singleton] at this
      rw [List.length_cons]
      omega
/-! ### The code of the range -/
def sqL : Code → Code
  | .seq x _ => x
  | c => c
def sqR : Code → Code
  | .seq _ y => y
  | c => c
def blkC : Code → Code
  | .block _ c => c
  | c => c
def rfA : Code → Code
  | .rangeFunc _ _ a _ => a
  | c => c
def rfB : Code → Code
  | .rangeFunc _ _ _ b => b
  | c => c
noncomputable def readRange : Code := blkC (sqR (sqL (sqR (sqR (sqR (Tryd.f9.body.getD .skip))))))
noncomputable def readAssign : Code := rfA readRange
noncomputable def readBody : Code := rfB readRange
/-! ### A range over a function -/
def recL (a : Act) (fn : FuncId) (ps : Array Tmp) (assign body : Code) (dp : Nat) (st : LoopState) (pe : Option Code) : Loop := { state := st, pending := pe, fn, tmps := a.tmps, params := ps, assign, body, defers := dp }
def markD (dp : Nat) : Deferred := { target := .collected dp, args := #[] }
def isLoop (r : Loop) (x : Obj) : Prop := x = .loop r
def isDefs (o : Option (List Deferred)) (x : Obj) : Prop := x = .deferred o
section
variable {P : Program} {N : Nat} {l : Slots} {a : Act} {w w' w0 : World} {B : Nat} {fs : List Fact} {ops : Array Oper} {o : Oper} {rest : List Oper} {Q : Exit → Act → World → Prop} {v p : Value} {d : Nat}
theorem St.putLoc {lp : Nat} {R R' : Obj → Prop} {o' : Obj} (j : Nat) (S : St B w0 w fs) (hi : fs[j]? = some (.loc lp R)) (hR : R' o') : St B w0 (w.putObj lp o') (fs.set j (.loc lp R')) := by
  have h := S.all j _ hi
  obtain ⟨h1, ob, h2, h3⟩ := h
  have hlt : lp < w.heap.size := (Array.getElem?_eq_some_iff.1 h2).1
  have hg := grownBy_putObj' w lp o'
  refine S.turn j hi (S.low.grown hg S.base fun k hk => by cases hk; exact h1) hg.size (fun k hk hne => hg.block k hk fun e => hne (by rw [e]; rfl)) ⟨h1, o', World.putObj_heap_same hlt, hR⟩ (fun k hk => .inl hk)
/-- The statement, at a loop that stands in no round. -/
theorem wC_rangeFunc {g : Operand} {ps : Array Tmp} {assign body : Code} {gf : Nat} {lb : Array Value} (S : St B w0 w fs) (hg : ev l g = some (.func (.func gf) #[] lb)) (eg : ∀ args w, (callFunc gf args).run P w = .ok (.enter gf args) w)
    (h : ∀ (a : Act) (fn : FuncId) (lp dp : Nat) (w1 : World), Fr N l a → St B w0 w1 (.loc lp (isLoop (recL a fn ps assign body dp .ready none)) :: .loc dp (isDefs (some [])) :: fs) →
      Calls P gf (#[.func (.yield lp) #[] #[]] ++ lb) w1 fun e w3 => (∃ v, e = .returned v) ∧
        ((∃ w4, (Instr.endLoop lp).run P w3 = .ok none w4 ∧ In.wQ [markD dp] N Q .normal l w4) ∨ (∃ w4, (Instr.endLoop lp).run P w3 = .ok (some .ret) w4 ∧ In.wQ [markD dp] N Q .ret l w4))) :
    wC P N (.rangeFunc g ps assign body) Q l w := by
  intro a F
  refine (wpIn_wide (n := 0)).1 ?_
  refine wpIn_rangeFunc ?_
  intro fn _
  have S1 : St B w0 ((w.alloc (.deferred (some []))).alloc (.loop (recL a fn ps assign body w.heap.size .ready none))) (.loc (w.alloc (.deferred (some []))).heap.size (isLoop (recL a fn ps assign body w.heap.size .ready none)) :: .loc w.heap.size (isDefs (some [])) :: fs) :=
    (S.allocLoc (R := isDefs (some [])) rfl).allocLoc (R := isLoop (recL a fn ps assign body w.heap.size .ready none)) rfl
  rw [World.size_alloc] at S1
  obtain ⟨W1, hW1⟩ : ∃ W1, (w.alloc (.deferred (some []))).alloc (.loop (recL a fn ps assign body w.heap.size .ready none)) = W1 := ⟨_, rfl⟩
  rw [hW1] at S1
  refine ⟨w.heap.size + 1, [markD w.heap.size], W1, { target := .fn (.func gf) lb, args := #[.func (.yield (w.heap.size + 1)) #[] #[]] }, W1, gf, #[.func (.yield (w.heap.size + 1)) #[] #[]] ++ lb, W1,
    ?_, ?_, fun _ _ => trivial, ?_, fun h => (by cases h), ?_⟩
  · rw [← hW1]
    exact run_enterLoop_outer _ _ _ _ _
  · have hgv := F.ev hg
    simp only [resolve, hgv]
    simp [go_sem]
  · simp [invoke, go_sem, eg]
  · have hd : a.defers = [] := F.defers
    refine callsIn_wide.2 ((h a fn (w.heap.size + 1) w.heap.size _ F S1).mono ?_)
    rintro e w3 ⟨⟨v, rfl⟩, ⟨w4, he, hq⟩ | ⟨w4, he, hq⟩⟩
    · refine ⟨none, w4, he, hq _ ?_⟩
      exact ⟨by rw [hd]; rfl, F.size, F.get⟩
    · refine ⟨some .ret, w4, he, wpIn_ret (hq _ ?_)⟩
      exact ⟨by rw [hd]; rfl, F.size, F.get⟩
theorem wQ_thenR {ds : List Deferred} {y : Code} (h : In.wC none ds P N y Q l w) : In.wQ ds N (Exit.then (y.wp P Q) Q) .normal l w := fun a F => wpIn_wide.1 (h a F)
theorem wQ_thenR_ret {ds : List Deferred} {K : Act → World → Prop} (h : In.wQ ds N Q .ret l w) : In.wQ ds N (Exit.then K Q) .ret l w := h
/-- Plain code, walked in the manner of a round's. -/
theorem wC_of_In {c : Code} (h : In.wC none [] P N c Q l w) : wC P N c Q l w := fun a F => wpIn_wide.1 (h a ⟨F.defers, F.size, F.get⟩)
theorem In.wQ_of {e : Exit} (h : Go.Proofs.YtkjlafpafmihaaaDoor.wQ N Q e l w) : In.wQ [] N Q e l w := fun a F => h a ⟨F.defers, F.size, F.get⟩
/-- yield is called: one round. -/
theorem In.wL_yield {k lp : Nat} {y : Operand} {ts : Array TypeId} {rec : Loop} (hw : Wanted N ops l o true) (hd : o.dst = some d) (hN : Nat.blt d N = true) (ho : o.op = .call { callee := .value (.tmp k), args := #[y], argTypes := ts })
    (hk : lk l k = some (.func (.yield lp) #[] #[])) (hy : Go.Proofs.YtkjlafpafmihaaaDoor.ev l y = some v) (hrec : w.heap[lp]? = some (.loop rec)) (hps : rec.params.size = 1)
    (h : RoundIn Fence.wide 0 P lp rec.fn ((rec.params.zip #[v]).foldl (fun t (p, v) => t.setIfInBounds p v) rec.tmps) rec.assign rec.body w fun e w' => ∃ u, e = .returned u ∧ In.wL none [] P N ops Q rest ((d, u) :: l) w') : In.wL none [] P N ops Q (o :: rest) l w := fun a F => wpListIn_step fun K hK => by
  rw [if_pos (In.wanted_in hw F)]
  refine ⟨fun _ _ => trivial, ?_⟩
  have hkv : a.eval (.tmp k) = .func (.yield lp) #[] #[] := F.ev (x := .tmp k) hk
  have hyv : a.eval y = v := F.ev hy
  have hyr := run_yield (P := P) (args := #[v]) hrec (by simpa using hps.symm)
  have hr : (execOp a.eval o).run P w = .ok (.round lp rec.fn ((rec.params.zip #[v]).foldl (fun t (p, v) => t.setIfInBounds p v) rec.tmps) rec.assign rec.body) w := by
    unfold execOp
    simp only [ho, resolve, Deferred.ofValue, invoke, Sem.run_bind, Sem.run_pure, Result.andThen_ok, hkv, hyv, List.map_toArray, List.map_cons, List.map_nil]
    simp [invoke, hyr, hyv]
  rw [Oper.semAt_eq _ _ _ (fun c e => by rw [ho] at e; cases e), hr]
  refine ⟨fun h => (by cases h), h.mono fun e w' hh => ?_⟩
  obtain ⟨u, rfl, hu⟩ := hh
  show K (a.put o.dst u) w'
  rw [hd]
  exact hK _ _ (hu _ (F.put hN u))
/-- Out of the function, the mark among its deferred calls. -/
theorem In.wQ_postM {fn : Func} {R : Ending → World → Prop} {rs : List ResultVar} {vs : List Value} {dp j : Nat} (S : St B w0 w fs) (hi : fs[j]? = some (.loc dp (isDefs (some [])))) (hr : fn.results = rs.toArray)
    (h : ∀ w', St B w0 w' (fs.set j (.loc dp (isDefs none))) → ResOk P l w' rs vs ∧ R (.returned (tupOf vs)) w') : In.wQ [markD dp] N (bodyPostM Fence.wide 0 P fn R) .ret l w := fun a F => by
  obtain ⟨o, ho, hR⟩ := St.loc j S hi
  have hR' : o = .deferred (some []) := hR
  subst hR'
  obtain ⟨h1, h2⟩ := h _ (S.putLoc (o' := .deferred none) (R' := isDefs none) j hi rfl)
  show LeavesInM Fence.wide 0 P fn a.tmps R a.defers .returning w
  rw [F.defers]
  refine ⟨by simp, .inl ⟨dp, _, rfl, run_takeDeferred ho, ?_⟩⟩
  exact ⟨_, results_run (a := { a with defers := [] }) F.fr hr h1, h2⟩
theorem wQ_post_M {fn : Func} {R : Ending → World → Prop} {rs : List ResultVar} {vs : List Value} (hr : fn.results = rs.toArray) (h : ResOk P l w rs vs) (hR : R (.returned (tupOf vs)) w) : wQ N (bodyPostM Fence.wide 0 P fn R) .ret l w := fun a F => by
  show LeavesInM Fence.wide 0 P fn a.tmps R a.defers .returning w
  rw [F.defers]
  exact ⟨_, results_run F hr h, hR⟩
theorem calls_of_wCM {f : FuncId} {fn : Func} {c : Code} {vs : List Value} {R : Ending → World → Prop} (hf : P.funcs[f]? = some fn) (hb : fn.body = some c) (hn : fn.ntmps = N) (hN : Nat.ble vs.length N = true)
    (h : wC P N c (bodyPostM Fence.wide 0 P fn R) (ents 0 vs) w) : Calls P f vs.toArray w R :=
  callsIn_wide.1 (callsIn_of_wp_marks (n := 0) hf hb trivial (wpIn_wide.2 (by rw [hn]; exact h _ (Fr.enter vs hN))))
end
end Go.Proofs.YtkjlafpafmihaaaDoor

namespace Go.Proofs.YtkjlafpafmihaaaDoor
open Go.ChangeShapes Go.WideShapes Go.RowKit
/-- The text is read on from 'rest', L the acts so far. -/
def GoB (text rest : List UInt8) (w0 : World) (bs bl r1 r2 r3 lp dp : Nat) (o : Loop) (W : World) : Prop := ∃ L A c, readC [] text [] = readC [] rest L ∧ L.length ≤ 100000 ∧ St w0.heap.size w0 W [.blk bs #[str rest] 9, .blk bl #[.slice A L.length c] 22, .own 41 11 (.slice A L.length c) L.length ((L).flatMap Ac.cells), .blk r1 #[.slice none 0 0] 22, .blk r2 #[.int .i64 0] 3, .blk r3 #[.int .i64 0] 24, .loc lp (isLoop (o)), .loc dp (isDefs (some []))]
/-- The text is not read: the answer is there. -/
def EndB (text : List UInt8) (w0 : World) (r1 r2 r3 lp dp : Nat) (o : Loop) (W : World) : Prop := ∃ (k : Nat) (v : Int), readC [] text [] = ([], k, v) ∧ St w0.heap.size w0 W [.blk r1 #[.slice none 0 0] 22, .blk r2 #[.int .i64 ((k : Nat) : Int)] 3, .blk r3 #[.int .i64 v] 24, .loc lp (isLoop o), .loc dp (isDefs (some []))]
def BodyQ (text rest : List UInt8) (w0 : World) (bs bl r1 r2 r3 lp dp : Nat) (o : Loop) : Exit → Act → World → Prop
  | .normal, _, W => GoB text rest w0 bs bl r1 r2 r3 lp dp o W
  | .ret, _, W => EndB text w0 r1 r2 r3 lp dp o W
  | _, _, _ => False

namespace In
set_option maxRecDepth 100000 in
set_option maxHeartbeats 4000000 in
theorem read_body {w0 W : World} {text s rest : List UInt8} {L : List Ac} {A : Option Addr} {c bs bl r1 r2 r3 lp dp : Nat} {o : Loop} (hln : LineOf s rest) (hs : s.length ≤ 4000000) (hR : readC [] text [] = readC [] (s ++ rest) L) (hL : L.length ≤ 100000) (ht : TabB w0) (he : ErrVars w0)
    (S : St w0.heap.size w0 W [.blk bs #[str rest] 9, .blk bl #[.slice A L.length c] 22, .own 41 11 (.slice A L.length c) L.length ((L).flatMap Ac.cells), .blk r1 #[.slice none 0 0] 22, .blk r2 #[.int .i64 0] 3, .blk r3 #[.int .i64 0] 24, .loc lp (isLoop (o)), .loc dp (isDefs (some []))]) :
    In.wC (some lp) [] Tryd.prog 37 readBody (BodyQ text rest w0 bs bl r1 r2 r3 lp dp o) [(2, .pointer (some ⟨r1, 0, none⟩)), (3, .pointer (some ⟨r2, 0, none⟩)), (4, .pointer (some ⟨r3, 0, none⟩)), (5, .pointer (some ⟨bl, 0, none⟩)), (6, str s)] W := by
 refine wC_block (wC_seq (wC_seq (wC_region (wL_val (wn rfl) rfl rfl (y_load rfl rfl (r_load Tryd.underlying22 rfl (St.cl 1 S rfl rfl))) ?_))))
 refine wL_val (v := .int .i64 ((L.length : Nat) : Int)) (wn rfl) rfl rfl (y_builtin (vs := [.slice A L.length c]) rfl ⟨rfl, trivial⟩ fun _ => r_len rfl Tryd.underlying22) ?_
 by_cases h1 : ((L.length : Nat) : Int) = 100000
 ·refine wL_val (v := .bool true) (wn rfl) rfl rfl (y_binop rfl rfl rfl (r_eql_t h1)) ?_
  refine wL_nil (wQ_sub (l' := [(2, _), (3, _), (4, _), (5, _), (6, _), (16, _)]) ⟨rfl, rfl, rfl, rfl, rfl, rfl, trivial⟩ (wQ_then (wC_cond_t rfl (wC_seq (wC_any (n := 5) (listed := #[false, false, false, false, false]) S mixed rfl rfl ?_))))); intro w2 S3; clear S
  refine wA_two (n := 4) (i := 0) (j := 2) (by kernel_rfl) ?_ ?_
  ·refine wK_of (listed' := #[true, false, false, false, false]) rfl rfl ?_
   refine wL_val (wn rfl) rfl rfl (y_load rfl rfl (r_load Tryd.underlying22 rfl (St.cl 1 S3 rfl rfl))) ?_
   refine wL_nil (wQ_A ?_)
   refine wA_two (n := 3) (i := 1) (j := 2) (by kernel_rfl) ?_ ?_
   ·refine wK_of (listed' := #[true, true, false, false, false]) rfl rfl ?_
    refine wL_val (v := .int .i64 ((L.length : Nat) : Int)) (wn rfl) rfl rfl (y_builtin (vs := [.slice A L.length c]) rfl ⟨rfl, trivial⟩ fun _ => r_len rfl Tryd.underlying22) ?_
    refine wL_nil (wQ_A ?_)
    refine wA_one (n := 2) (i := 2) (by kernel_rfl) ?_
    refine wK_of (listed' := #[true, true, true, false, false]) rfl rfl ?_
    refine wL_st (cs := #[.slice none 0 0]) (row' := #[.slice none 0 0]) (fs' := [_, _, _, .blk r1 #[.slice none 0 0] 22, _, _, _, _]) 3 S3 (wn rfl) rfl rfl rfl rfl rfl rfl inf22 rfl (oneAll rfl) (Nat.le_of_ble_eq_true rfl) rfl rfl ?_; intro w4 S5; clear S3
    refine wL_nil (wQ_A ?_)
    refine wA_one (n := 1) (i := 3) (by kernel_rfl) ?_
    refine wK_of (listed' := #[true, true, true, true, false]) rfl rfl ?_
    refine wL_st (cs := #[.int .i64 ((L.length : Nat) : Int)]) (row' := #[.int .i64 ((L.length : Nat) : Int)]) (fs' := [_, _, _, _, .blk r2 #[.int .i64 ((L.length : Nat) : Int)] 3, _, _, _]) 4 S5 (wn rfl) rfl rfl rfl rfl rfl rfl inf3 rfl (oneAll rfl) (Nat.le_of_ble_eq_true rfl) rfl rfl ?_; intro w6 S7; clear S5
    refine wL_nil (wQ_A ?_)
    refine wA_one (n := 0) (i := 4) (by kernel_rfl) ?_
    refine wK_of (listed' := #[true, true, true, true, true]) rfl rfl ?_
    refine wL_st (cs := #[.int .i64 14]) (row' := #[.int .i64 14]) (fs' := [_, _, _, _, _, .blk r3 #[.int .i64 14] 24, _, _]) 5 S7 (wn rfl) rfl rfl rfl rfl rfl rfl inf24 rfl (oneAll rfl) (Nat.le_of_ble_eq_true rfl) rfl rfl ?_; intro w8 S9; clear S7
    refine wL_nil (wQ_A ?_)
    refine wA_done (by kernel_rfl) ?_
    refine wQ_sub (l' := [(2, _), (3, _), (4, _)]) ⟨rfl, rfl, rfl, trivial⟩ (wQ_then (wC_ret (wQ_then_ret (wQ_blk_ret ?_))))
    have S10 : St w0.heap.size w0 w8 [_, _, _, _, _] := (St.del 0 (St.del 1 (St.del 2 S9))); clear S9
    exact fun _ _ => ⟨L.length, 14, by rw [hR]; exact line_full hln (by omega), S10⟩
   ·refine wK_of (listed' := #[true, false, true, false, false]) rfl rfl ?_
    refine wL_st (cs := #[.slice none 0 0]) (row' := #[.slice none 0 0]) (fs' := [_, _, _, .blk r1 #[.slice none 0 0] 22, _, _, _, _]) 3 S3 (wn rfl) rfl rfl rfl rfl rfl rfl inf22 rfl (oneAll rfl) (Nat.le_of_ble_eq_true rfl) rfl rfl ?_; intro w11 S12; clear S3
    refine wL_nil (wQ_A ?_)
    refine wA_one (n := 2) (i := 1) (by kernel_rfl) ?_
    refine wK_of (listed' := #[true, true, true, false, false]) rfl rfl ?_
    refine wL_val (v := .int .i64 ((L.length : Nat) : Int)) (wn rfl) rfl rfl (y_builtin (vs := [.slice A L.length c]) rfl ⟨rfl, trivial⟩ fun _ => r_len rfl Tryd.underlying22) ?_
    refine wL_nil (wQ_A ?_)
    refine wA_one (n := 1) (i := 3) (by kernel_rfl) ?_
    refine wK_of (listed' := #[true, true, true, true, false]) rfl rfl ?_
    refine wL_st (cs := #[.int .i64 ((L.length : Nat) : Int)]) (row' := #[.int .i64 ((L.length : Nat) : Int)]) (fs' := [_, _, _, _, .blk r2 #[.int .i64 ((L.length : Nat) : Int)] 3, _, _, _]) 4 S12 (wn rfl) rfl rfl rfl rfl rfl rfl inf3 rfl (oneAll rfl) (Nat.le_of_ble_eq_true rfl) rfl rfl ?_; intro w13 S14; clear S12
    refine wL_nil (wQ_A ?_)
    refine wA_one (n := 0) (i := 4) (by kernel_rfl) ?_
    refine wK_of (listed' := #[true, true, true, true, true]) rfl rfl ?_
    refine wL_st (cs := #[.int .i64 14]) (row' := #[.int .i64 14]) (fs' := [_, _, _, _, _, .blk r3 #[.int .i64 14] 24, _, _]) 5 S14 (wn rfl) rfl rfl rfl rfl rfl rfl inf24 rfl (oneAll rfl) (Nat.le_of_ble_eq_true rfl) rfl rfl ?_; intro w15 S16; clear S14
    refine wL_nil (wQ_A ?_)
    refine wA_done (by kernel_rfl) ?_
    refine wQ_sub (l' := [(2, _), (3, _), (4, _)]) ⟨rfl, rfl, rfl, trivial⟩ (wQ_then (wC_ret (wQ_then_ret (wQ_blk_ret ?_))))
    have S17 : St w0.heap.size w0 w15 [_, _, _, _, _] := (St.del 0 (St.del 1 (St.del 2 S16))); clear S16
    exact fun _ _ => ⟨L.length, 14, by rw [hR]; exact line_full hln (by omega), S17⟩
  ·refine wK_of (listed' := #[false, false, true, false, false]) rfl rfl ?_
   refine wL_st (cs := #[.slice none 0 0]) (row' := #[.slice none 0 0]) (fs' := [_, _, _, .blk r1 #[.slice none 0 0] 22, _, _, _, _]) 3 S3 (wn rfl) rfl rfl rfl rfl rfl rfl inf22 rfl (oneAll rfl) (Nat.le_of_ble_eq_true rfl) rfl rfl ?_; intro w18 S19; clear S3
   refine wL_nil (wQ_A ?_)
   refine wA_one (n := 3) (i := 0) (by kernel_rfl) ?_
   refine wK_of (listed' := #[true, false, true, false, false]) rfl rfl ?_
   refine wL_val (wn rfl) rfl rfl (y_load rfl rfl (r_load Tryd.underlying22 rfl (St.cl 1 S19 rfl rfl))) ?_
   refine wL_nil (wQ_A ?_)
   refine wA_one (n := 2) (i := 1) (by kernel_rfl) ?_
   refine wK_of (listed' := #[true, true, true, false, false]) rfl rfl ?_
   refine wL_val (v := .int .i64 ((L.length : Nat) : Int)) (wn rfl) rfl rfl (y_builtin (vs := [.slice A L.length c]) rfl ⟨rfl, trivial⟩ fun _ => r_len rfl Tryd.underlying22) ?_
   refine wL_nil (wQ_A ?_)
   refine wA_one (n := 1) (i := 3) (by kernel_rfl) ?_
   refine wK_of (listed' := #[true, true, true, true, false]) rfl rfl ?_
   refine wL_st (cs := #[.int .i64 ((L.length : Nat) : Int)]) (row' := #[.int .i64 ((L.length : Nat) : Int)]) (fs' := [_, _, _, _, .blk r2 #[.int .i64 ((L.length : Nat) : Int)] 3, _, _, _]) 4 S19 (wn rfl) rfl rfl rfl rfl rfl rfl inf3 rfl (oneAll rfl) (Nat.le_of_ble_eq_true rfl) rfl rfl ?_; intro w20 S21; clear S19
   refine wL_nil (wQ_A ?_)
   refine wA_one (n := 0) (i := 4) (by kernel_rfl) ?_
   refine wK_of (listed' := #[true, true, true, true, true]) rfl rfl ?_
   refine wL_st (cs := #[.int .i64 14]) (row' := #[.int .i64 14]) (fs' := [_, _, _, _, _, .blk r3 #[.int .i64 14] 24, _, _]) 5 S21 (wn rfl) rfl rfl rfl rfl rfl rfl inf24 rfl (oneAll rfl) (Nat.le_of_ble_eq_true rfl) rfl rfl ?_; intro w22 S23; clear S21
   refine wL_nil (wQ_A ?_)
   refine wA_done (by kernel_rfl) ?_
   refine wQ_sub (l' := [(2, _), (3, _), (4, _)]) ⟨rfl, rfl, rfl, trivial⟩ (wQ_then (wC_ret (wQ_then_ret (wQ_blk_ret ?_))))
   have S24 : St w0.heap.size w0 w22 [_, _, _, _, _] := (St.del 0 (St.del 1 (St.del 2 S23))); clear S23
   exact fun _ _ => ⟨L.length, 14, by rw [hR]; exact line_full hln (by omega), S24⟩
 ·refine wL_val (v := .bool false) (wn rfl) rfl rfl (y_binop rfl rfl rfl (r_eql_f h1)) ?_
  refine wL_nil (wQ_sub (l' := [(2, _), (3, _), (4, _), (5, _), (6, _), (16, _)]) ⟨rfl, rfl, rfl, rfl, rfl, rfl, trivial⟩ (wQ_then (wC_cond_f rfl (wC_skip (wQ_then (wC_seq ?_))))))
  obtain ⟨X, hX⟩ : ∃ X, actM (wordsC [] (trimM s)) = X := ⟨_, rfl⟩
  have hwl : ∀ v ∈ wordsC [] (trimM s), v.length ≤ 4000000 := fun v hv => by have h1 := words_len (trimM s) [] v hv; have h2 := trimM_len s; simp only [List.length_nil] at h1; omega
  refine wC_region (wL_val (wn rfl) rfl rfl (y_move rfl rfl) ?_)
  have HA := fun w he => act_calls s hs _ rfl hwl w he
  rw [hX] at HA
  refine wL_call (wn rfl) rfl rfl (e_call (vs := [str s]) rfl en18 ⟨rfl, trivial⟩) (HA _ (he.on S.low)) ?_
  rintro _ w25 ⟨rfl, hb27⟩
  refine ⟨_, rfl, ?_⟩
  have S26 := S.on hb27; clear hb27 S
  refine wL_new (V := fun b => .pointer (some ⟨b, 0, none⟩)) (row := #[.int .i64 0, .int .i64 0, .int .i64 0, .int .i64 0, .int .i64 0, .int .i64 0, .int .i64 0, .int .i64 0, .int .i64 0, .int .i64 0, .int .i64 0]) (t := 41) S26 (wn rfl) rfl rfl (d_alloc rfl (Tryd.zeroValue41 _) rfl) ?_; intro b28 w29 S30; clear S26
  refine wL_st (fs' := [_, _, _, _, _, _, _, _, _]) 0 S30 (wn rfl) rfl rfl rfl rfl rfl rfl inf41 rfl (oneAll rfl) (Nat.le_of_ble_eq_true rfl) (setAll_all rfl) rfl ?_; intro w31 S32; clear S30
  refine wL_nil (wQ_sub (l' := [(2, _), (3, _), (4, _), (5, _), (6, _), (7, _)]) ⟨rfl, rfl, rfl, rfl, rfl, rfl, trivial⟩ (wQ_then (wC_seq (wC_seq (wC_region (wL_val (wn rfl) rfl rfl (y_load rfl rfl (r_load_row 0 S32 rfl Tryd.underlying41 rfl inf41 rfl)) ?_))))))
  refine wL_call (wn rfl) rfl rfl (e_call (vs := [.agg #[.int .i64 X.kd, .int .i64 X.nd, .int .i64 X.qu, .int .i64 X.at_, .int .i64 X.kp, .int .i64 X.ek, .int .i64 X.ep, .int .i64 X.ei, .int .i64 X.eb, .int .i64 X.eh, .int .i64 X.en]]) rfl en11 ⟨rfl, trivial⟩) (LCheck_calls X _) ?_
  rintro _ w33 ⟨rfl, hb35⟩
  refine ⟨_, rfl, ?_⟩
  have S34 := S32.on hb35; clear hb35 S32
  by_cases h36 : actFault X = 0
  ·refine wL_val (v := .bool false) (wn rfl) rfl rfl (y_binop rfl rfl rfl (r_neq_f h36)) ?_
   refine wL_val (wn rfl) rfl rfl (y_move rfl rfl) ?_
   refine wL_val (wg rfl rfl rfl rfl) rfl rfl (y_load rfl rfl (r_load_row 0 S34 rfl Tryd.underlying41 rfl inf41 rfl)) ?_
   obtain ⟨fl, hfl⟩ := zero_some h36
   refine wL_call (wg rfl rfl rfl rfl) rfl rfl (e_call (vs := [.agg #[.int .i64 X.kd, .int .i64 X.nd, .int .i64 X.qu, .int .i64 X.at_, .int .i64 X.kp, .int .i64 X.ek, .int .i64 X.ep, .int .i64 X.ei, .int .i64 X.eb, .int .i64 X.eh, .int .i64 X.en]]) rfl en13 ⟨rfl, trivial⟩) (line_calls X fl hfl h36 _ (ht.on S34.low)) ?_
   rintro _ w37 ⟨rfl, hb39⟩
   refine ⟨_, rfl, ?_⟩
   have S38 := S34.on hb39; clear hb39 S34
   refine wL_val (wg rfl rfl rfl rfl) rfl rfl (y_move rfl rfl) ?_
   by_cases h40 : lineB X ++ [10] = s
   ·refine wL_val (v := .bool false) (wg rfl rfl rfl rfl) rfl rfl (y_binop rfl rfl rfl (r_sneqF h40)) ?_
    refine wL_val (wn rfl) rfl rfl (y_pick_f rfl rfl rfl) ?_
    refine wL_nil (wQ_sub (l' := [(2, _), (3, _), (4, _), (5, _), (7, _), (29, _)]) ⟨rfl, rfl, rfl, rfl, rfl, rfl, trivial⟩ (wQ_then (wC_cond_f rfl (wC_skip (wQ_then (wC_region (wL_val (wn rfl) rfl rfl (y_load rfl rfl (r_load Tryd.underlying22 rfl (St.cl 2 S38 rfl rfl))) ?_)))))))
    refine wL_val (wn rfl) rfl rfl (y_load rfl rfl (r_load_row 0 S38 rfl Tryd.underlying41 rfl inf41 rfl)) ?_
    refine wL_new (V := fun b => .slice (some ⟨b, 0, none⟩) 1 1) (row := #[.int .i64 X.kd, .int .i64 X.nd, .int .i64 X.qu, .int .i64 X.at_, .int .i64 X.kp, .int .i64 X.ek, .int .i64 X.ep, .int .i64 X.ei, .int .i64 X.eb, .int .i64 X.eh, .int .i64 X.en]) (t := 41) S38 (wn rfl) rfl rfl (d_buildSlice (vs := [(0, .agg #[.int .i64 X.kd, .int .i64 X.nd, .int .i64 X.qu, .int .i64 X.at_, .int .i64 X.kp, .int .i64 X.ek, .int .i64 X.ep, .int .i64 X.ei, .int .i64 X.eb, .int .i64 X.eh, .int .i64 X.en])]) rfl ⟨rfl, rfl, trivial⟩ (by kernel_rfl)) ?_; intro b41 w42 S43; clear S38
    refine wL_append (news := [.int .i64 X.kd, .int .i64 X.nd, .int .i64 X.qu, .int .i64 X.at_, .int .i64 X.kp, .int .i64 X.ek, .int .i64 X.ep, .int .i64 X.ei, .int .i64 X.eb, .int .i64 X.eh, .int .i64 X.en]) (xs' := (L ++ [X]).flatMap Ac.cells) 4 S43 (wn rfl) rfl rfl rfl rfl rfl rfl (St.bld (xs := [.int .i64 X.kd, .int .i64 X.nd, .int .i64 X.qu, .int .i64 X.at_, .int .i64 X.kp, .int .i64 X.ek, .int .i64 X.ep, .int .i64 X.ei, .int .i64 X.eb, .int .i64 X.eh, .int .i64 X.en]) 0 S43 rfl rfl rfl) Tryd.underlying22 infz41 rfl (by decide) (oneAll rfl) (by simp only [maxLen]; omega) (by omega) (by simp [Ac.cells]) ?_; intro A44 c45 w46 hc48 hm49 S47; clear S43
    change St _ _ _ [_, _, _, _, .own 41 11 (.slice A44 (L.length + 1) c45) (L.length + 1) ((L ++ [X]).flatMap Ac.cells), _, _, _, _, _] at S47
    refine wL_st (cs := #[.slice A44 (L.length + 1) c45]) (row' := #[.slice A44 (L.length + 1) c45]) (fs' := [_, _, _, .blk bl #[.slice A44 (L.length + 1) c45] 22, _, _, _, _, _, _]) 3 S47 (wn rfl) rfl rfl rfl rfl rfl rfl inf22 rfl (oneAll rfl) (Nat.le_of_ble_eq_true rfl) rfl rfl ?_; intro w50 S51; clear S47
    refine wL_nil (wQ_sub (l' := [(2, _), (3, _), (4, _)]) ⟨rfl, rfl, rfl, trivial⟩ (wQ_blk_n ?_))
    have S52 : St w0.heap.size w0 w50 [_, _, _, _, _, _, _, _] := (St.del 0 (St.del 1 S51)); clear S51
    have hle : (L ++ [X]).length = L.length + 1 := by rw [List.length_append, List.length_singleton]
    rw [← hle] at S52
    exact fun _ _ => ⟨L ++ [X], A44, c45, by rw [hR]; exact line_ok hln (by omega) h36 h40, by omega, S52⟩
   ·refine wL_val (v := .bool true) (wg rfl rfl rfl rfl) rfl rfl (y_binop rfl rfl rfl (r_sneqT h40)) ?_
    refine wL_val (wn rfl) rfl rfl (y_pick_f rfl rfl rfl) ?_
    refine wL_nil (wQ_sub (l' := [(2, _), (3, _), (4, _), (5, _), (7, _), (29, _)]) ⟨rfl, rfl, rfl, rfl, rfl, rfl, trivial⟩ (wQ_then (wC_cond_t rfl (wC_seq (wC_any (n := 5) (listed := #[false, false, false, false, false]) S38 mixed rfl rfl ?_))))); intro w53 S54; clear S38
    refine wA_two (n := 4) (i := 0) (j := 2) (by kernel_rfl) ?_ ?_
    ·refine wK_of (listed' := #[true, false, false, false, false]) rfl rfl ?_
     refine wL_val (wn rfl) rfl rfl (y_load rfl rfl (r_load Tryd.underlying22 rfl (St.cl 2 S54 rfl rfl))) ?_
     refine wL_nil (wQ_A ?_)
     refine wA_two (n := 3) (i := 1) (j := 2) (by kernel_rfl) ?_ ?_
     ·refine wK_of (listed' := #[true, true, false, false, false]) rfl rfl ?_
      refine wL_val (v := .int .i64 ((L.length : Nat) : Int)) (wn rfl) rfl rfl (y_builtin (vs := [.slice A L.length c]) rfl ⟨rfl, trivial⟩ fun _ => r_len rfl Tryd.underlying22) ?_
      refine wL_nil (wQ_A ?_)
      refine wA_one (n := 2) (i := 2) (by kernel_rfl) ?_
      refine wK_of (listed' := #[true, true, true, false, false]) rfl rfl ?_
      refine wL_st (cs := #[.slice none 0 0]) (row' := #[.slice none 0 0]) (fs' := [_, _, _, _, .blk r1 #[.slice none 0 0] 22, _, _, _, _]) 4 S54 (wn rfl) rfl rfl rfl rfl rfl rfl inf22 rfl (oneAll rfl) (Nat.le_of_ble_eq_true rfl) rfl rfl ?_; intro w55 S56; clear S54
      refine wL_nil (wQ_A ?_)
      refine wA_one (n := 1) (i := 3) (by kernel_rfl) ?_
      refine wK_of (listed' := #[true, true, true, true, false]) rfl rfl ?_
      refine wL_st (cs := #[.int .i64 ((L.length : Nat) : Int)]) (row' := #[.int .i64 ((L.length : Nat) : Int)]) (fs' := [_, _, _, _, _, .blk r2 #[.int .i64 ((L.length : Nat) : Int)] 3, _, _, _]) 5 S56 (wn rfl) rfl rfl rfl rfl rfl rfl inf3 rfl (oneAll rfl) (Nat.le_of_ble_eq_true rfl) rfl rfl ?_; intro w57 S58; clear S56
      refine wL_nil (wQ_A ?_)
      refine wA_one (n := 0) (i := 4) (by kernel_rfl) ?_
      refine wK_of (listed' := #[true, true, true, true, true]) rfl rfl ?_
      refine wL_st (cs := #[.int .i64 3]) (row' := #[.int .i64 3]) (fs' := [_, _, _, _, _, _, .blk r3 #[.int .i64 3] 24, _, _]) 6 S58 (wn rfl) rfl rfl rfl rfl rfl rfl inf24 rfl (oneAll rfl) (Nat.le_of_ble_eq_true rfl) rfl rfl ?_; intro w59 S60; clear S58
      refine wL_nil (wQ_A ?_)
      refine wA_done (by kernel_rfl) ?_
      refine wQ_sub (l' := [(2, _), (3, _), (4, _)]) ⟨rfl, rfl, rfl, trivial⟩ (wQ_then (wC_ret (wQ_then_ret (wQ_blk_ret ?_))))
      have S61 : St w0.heap.size w0 w59 [_, _, _, _, _] := (St.del 0 (St.del 1 (St.del 2 (St.del 3 S60)))); clear S60
      exact fun _ _ => ⟨L.length, 3, by rw [hR]; exact line_bad hln (by omega) hX (fun h => h40 h.2), S61⟩
     ·refine wK_of (listed' := #[true, false, true, false, false]) rfl rfl ?_
      refine wL_st (cs := #[.slice none 0 0]) (row' := #[.slice none 0 0]) (fs' := [_, _, _, _, .blk r1 #[.slice none 0 0] 22, _, _, _, _]) 4 S54 (wn rfl) rfl rfl rfl rfl rfl rfl inf22 rfl (oneAll rfl) (Nat.le_of_ble_eq_true rfl) rfl rfl ?_; intro w62 S63; clear S54
      refine wL_nil (wQ_A ?_)
      refine wA_one (n := 2) (i := 1) (by kernel_rfl) ?_
      refine wK_of (listed' := #[true, true, true, false, false]) rfl rfl ?_
      refine wL_val (v := .int .i64 ((L.length : Nat) : Int)) (wn rfl) rfl rfl (y_builtin (vs := [.slice A L.length c]) rfl ⟨rfl, trivial⟩ fun _ => r_len rfl Tryd.underlying22) ?_
      refine wL_nil (wQ_A ?_)
      refine wA_one (n := 1) (i := 3) (by kernel_rfl) ?_
      refine wK_of (listed' := #[true, true, true, true, false]) rfl rfl ?_
      refine wL_st (cs := #[.int .i64 ((L.length : Nat) : Int)]) (row' := #[.int .i64 ((L.length : Nat) : Int)]) (fs' := [_, _, _, _, _, .blk r2 #[.int .i64 ((L.length : Nat) : Int)] 3, _, _, _]) 5 S63 (wn rfl) rfl rfl rfl rfl rfl rfl inf3 rfl (oneAll rfl) (Nat.le_of_ble_eq_true rfl) rfl rfl ?_; intro w64 S65; clear S63
      refine wL_nil (wQ_A ?_)
      refine wA_one (n := 0) (i := 4) (by kernel_rfl) ?_
      refine wK_of (listed' := #[true, true, true, true, true]) rfl rfl ?_
      refine wL_st (cs := #[.int .i64 3]) (row' := #[.int .i64 3]) (fs' := [_, _, _, _, _, _, .blk r3 #[.int .i64 3] 24, _, _]) 6 S65 (wn rfl) rfl rfl rfl rfl rfl rfl inf24 rfl (oneAll rfl) (Nat.le_of_ble_eq_true rfl) rfl rfl ?_; intro w66 S67; clear S65
      refine wL_nil (wQ_A ?_)
      refine wA_done (by kernel_rfl) ?_
      refine wQ_sub (l' := [(2, _), (3, _), (4, _)]) ⟨rfl, rfl, rfl, trivial⟩ (wQ_then (wC_ret (wQ_then_ret (wQ_blk_ret ?_))))
      have S68 : St w0.heap.size w0 w66 [_, _, _, _, _] := (St.del 0 (St.del 1 (St.del 2 (St.del 3 S67)))); clear S67
      exact fun _ _ => ⟨L.length, 3, by rw [hR]; exact line_bad hln (by omega) hX (fun h => h40 h.2), S68⟩
    ·refine wK_of (listed' := #[false, false, true, false, false]) rfl rfl ?_
     refine wL_st (cs := #[.slice none 0 0]) (row' := #[.slice none 0 0]) (fs' := [_, _, _, _, .blk r1 #[.slice none 0 0] 22, _, _, _, _]) 4 S54 (wn rfl) rfl rfl rfl rfl rfl rfl inf22 rfl (oneAll rfl) (Nat.le_of_ble_eq_true rfl) rfl rfl ?_; intro w69 S70; clear S54
     refine wL_nil (wQ_A ?_)
     refine wA_one (n := 3) (i := 0) (by kernel_rfl) ?_
     refine wK_of (listed' := #[true, false, true, false, false]) rfl rfl ?_
     refine wL_val (wn rfl) rfl rfl (y_load rfl rfl (r_load Tryd.underlying22 rfl (St.cl 2 S70 rfl rfl))) ?_
     refine wL_nil (wQ_A ?_)
     refine wA_one (n := 2) (i := 1) (by kernel_rfl) ?_
     refine wK_of (listed' := #[true, true, true, false, false]) rfl rfl ?_
     refine wL_val (v := .int .i64 ((L.length : Nat) : Int)) (wn rfl) rfl rfl (y_builtin (vs := [.slice A L.length c]) rfl ⟨rfl, trivial⟩ fun _ => r_len rfl Tryd.underlying22) ?_
     refine wL_nil (wQ_A ?_)
     refine wA_one (n := 1) (i := 3) (by kernel_rfl) ?_
     refine wK_of (listed' := #[true, true, true, true, false]) rfl rfl ?_
     refine wL_st (cs := #[.int .i64 ((L.length : Nat) : Int)]) (row' := #[.int .i64 ((L.length : Nat) : Int)]) (fs' := [_, _, _, _, _, .blk r2 #[.int .i64 ((L.length : Nat) : Int)] 3, _, _, _]) 5 S70 (wn rfl) rfl rfl rfl rfl rfl rfl inf3 rfl (oneAll rfl) (Nat.le_of_ble_eq_true rfl) rfl rfl ?_; intro w71 S72; clear S70
     refine wL_nil (wQ_A ?_)
     refine wA_one (n := 0) (i := 4) (by kernel_rfl) ?_
     refine wK_of (listed' := #[true, true, true, true, true]) rfl rfl ?_
     refine wL_st (cs := #[.int .i64 3]) (row' := #[.int .i64 3]) (fs' := [_, _, _, _, _, _, .blk r3 #[.int .i64 3] 24, _, _]) 6 S72 (wn rfl) rfl rfl rfl rfl rfl rfl inf24 rfl (oneAll rfl) (Nat.le_of_ble_eq_true rfl) rfl rfl ?_; intro w73 S74; clear S72
     refine wL_nil (wQ_A ?_)
     refine wA_done (by kernel_rfl) ?_
     refine wQ_sub (l' := [(2, _), (3, _), (4, _)]) ⟨rfl, rfl, rfl, trivial⟩ (wQ_then (wC_ret (wQ_then_ret (wQ_blk_ret ?_))))
     have S75 : St w0.heap.size w0 w73 [_, _, _, _, _] := (St.del 0 (St.del 1 (St.del 2 (St.del 3 S74)))); clear S74
     exact fun _ _ => ⟨L.length, 3, by rw [hR]; exact line_bad hln (by omega) hX (fun h => h40 h.2), S75⟩
  ·refine wL_val (v := .bool true) (wn rfl) rfl rfl (y_binop rfl rfl rfl (r_neq_t h36)) ?_
   refine wL_val (wn rfl) rfl rfl (y_move rfl rfl) ?_
   refine wL_skip (wg rfl rfl rfl rfl) rfl rfl ?_
   refine wL_skip (wg rfl rfl rfl rfl) rfl rfl ?_
   refine wL_skip (wg rfl rfl rfl rfl) rfl rfl ?_
   refine wL_skip (wg rfl rfl rfl rfl) rfl rfl ?_
   refine wL_val (wn rfl) rfl rfl (y_pick_t rfl rfl rfl) ?_
   refine wL_nil (wQ_sub (l' := [(2, _), (3, _), (4, _), (5, _), (7, _), (29, _)]) ⟨rfl, rfl, rfl, rfl, rfl, rfl, trivial⟩ (wQ_then (wC_cond_t rfl (wC_seq (wC_any (n := 5) (listed := #[false, false, false, false, false]) S34 mixed rfl rfl ?_))))); intro w76 S77; clear S34
   refine wA_two (n := 4) (i := 0) (j := 2) (by kernel_rfl) ?_ ?_
   ·refine wK_of (listed' := #[true, false, false, false, false]) rfl rfl ?_
    refine wL_val (wn rfl) rfl rfl (y_load rfl rfl (r_load Tryd.underlying22 rfl (St.cl 2 S77 rfl rfl))) ?_
    refine wL_nil (wQ_A ?_)
    refine wA_two (n := 3) (i := 1) (j := 2) (by kernel_rfl) ?_ ?_
    ·refine wK_of (listed' := #[true, true, false, false, false]) rfl rfl ?_
     refine wL_val (v := .int .i64 ((L.length : Nat) : Int)) (wn rfl) rfl rfl (y_builtin (vs := [.slice A L.length c]) rfl ⟨rfl, trivial⟩ fun _ => r_len rfl Tryd.underlying22) ?_
     refine wL_nil (wQ_A ?_)
     refine wA_one (n := 2) (i := 2) (by kernel_rfl) ?_
     refine wK_of (listed' := #[true, true, true, false, false]) rfl rfl ?_
     refine wL_st (cs := #[.slice none 0 0]) (row' := #[.slice none 0 0]) (fs' := [_, _, _, _, .blk r1 #[.slice none 0 0] 22, _, _, _, _]) 4 S77 (wn rfl) rfl rfl rfl rfl rfl rfl inf22 rfl (oneAll rfl) (Nat.le_of_ble_eq_true rfl) rfl rfl ?_; intro w78 S79; clear S77
     refine wL_nil (wQ_A ?_)
     refine wA_one (n := 1) (i := 3) (by kernel_rfl) ?_
     refine wK_of (listed' := #[true, true, true, true, false]) rfl rfl ?_
     refine wL_st (cs := #[.int .i64 ((L.length : Nat) : Int)]) (row' := #[.int .i64 ((L.length : Nat) : Int)]) (fs' := [_, _, _, _, _, .blk r2 #[.int .i64 ((L.length : Nat) : Int)] 3, _, _, _]) 5 S79 (wn rfl) rfl rfl rfl rfl rfl rfl inf3 rfl (oneAll rfl) (Nat.le_of_ble_eq_true rfl) rfl rfl ?_; intro w80 S81; clear S79
     refine wL_nil (wQ_A ?_)
     refine wA_one (n := 0) (i := 4) (by kernel_rfl) ?_
     refine wK_of (listed' := #[true, true, true, true, true]) rfl rfl ?_
     refine wL_st (cs := #[.int .i64 3]) (row' := #[.int .i64 3]) (fs' := [_, _, _, _, _, _, .blk r3 #[.int .i64 3] 24, _, _]) 6 S81 (wn rfl) rfl rfl rfl rfl rfl rfl inf24 rfl (oneAll rfl) (Nat.le_of_ble_eq_true rfl) rfl rfl ?_; intro w82 S83; clear S81
     refine wL_nil (wQ_A ?_)
     refine wA_done (by kernel_rfl) ?_
     refine wQ_sub (l' := [(2, _), (3, _), (4, _)]) ⟨rfl, rfl, rfl, trivial⟩ (wQ_then (wC_ret (wQ_then_ret (wQ_blk_ret ?_))))
     have S84 : St w0.heap.size w0 w82 [_, _, _, _, _] := (St.del 0 (St.del 1 (St.del 2 (St.del 3 S83)))); clear S83
     exact fun _ _ => ⟨L.length, 3, by rw [hR]; exact line_bad hln (by omega) hX (fun h => h36 h.1), S84⟩
    ·refine wK_of (listed' := #[true, false, true, false, false]) rfl rfl ?_
     refine wL_st (cs := #[.slice none 0 0]) (row' := #[.slice none 0 0]) (fs' := [_, _, _, _, .blk r1 #[.slice none 0 0] 22, _, _, _, _]) 4 S77 (wn rfl) rfl rfl rfl rfl rfl rfl inf22 rfl (oneAll rfl) (Nat.le_of_ble_eq_true rfl) rfl rfl ?_; intro w85 S86; clear S77
     refine wL_nil (wQ_A ?_)
     refine wA_one (n := 2) (i := 1) (by kernel_rfl) ?_
     refine wK_of (listed' := #[true, true, true, false, false]) rfl rfl ?_
     refine wL_val (v := .int .i64 ((L.length : Nat) : Int)) (wn rfl) rfl rfl (y_builtin (vs := [.slice A L.length c]) rfl ⟨rfl, trivial⟩ fun _ => r_len rfl Tryd.underlying22) ?_
     refine wL_nil (wQ_A ?_)
     refine wA_one (n := 1) (i := 3) (by kernel_rfl) ?_
     refine wK_of (listed' := #[true, true, true, true, false]) rfl rfl ?_
     refine wL_st (cs := #[.int .i64 ((L.length : Nat) : Int)]) (row' := #[.int .i64 ((L.length : Nat) : Int)]) (fs' := [_, _, _, _, _, .blk r2 #[.int .i64 ((L.length : Nat) : Int)] 3, _, _, _]) 5 S86 (wn rfl) rfl rfl rfl rfl rfl rfl inf3 rfl (oneAll rfl) (Nat.le_of_ble_eq_true rfl) rfl rfl ?_; intro w87 S88; clear S86
     refine wL_nil (wQ_A ?_)
     refine wA_one (n := 0) (i := 4) (by kernel_rfl) ?_
     refine wK_of (listed' := #[true, true, true, true, true]) rfl rfl ?_
     refine wL_st (cs := #[.int .i64 3]) (row' := #[.int .i64 3]) (fs' := [_, _, _, _, _, _, .blk r3 #[.int .i64 3] 24, _, _]) 6 S88 (wn rfl) rfl rfl rfl rfl rfl rfl inf24 rfl (oneAll rfl) (Nat.le_of_ble_eq_true rfl) rfl rfl ?_; intro w89 S90; clear S88
     refine wL_nil (wQ_A ?_)
     refine wA_done (by kernel_rfl) ?_
     refine wQ_sub (l' := [(2, _), (3, _), (4, _)]) ⟨rfl, rfl, rfl, trivial⟩ (wQ_then (wC_ret (wQ_then_ret (wQ_blk_ret ?_))))
     have S91 : St w0.heap.size w0 w89 [_, _, _, _, _] := (St.del 0 (St.del 1 (St.del 2 (St.del 3 S90)))); clear S90
     exact fun _ _ => ⟨L.length, 3, by rw [hR]; exact line_bad hln (by omega) hX (fun h => h36 h.1), S91⟩
   ·refine wK_of (listed' := #[false, false, true, false, false]) rfl rfl ?_
    refine wL_st (cs := #[.slice none 0 0]) (row' := #[.slice none 0 0]) (fs' := [_, _, _, _, .blk r1 #[.slice none 0 0] 22, _, _, _, _]) 4 S77 (wn rfl) rfl rfl rfl rfl rfl rfl inf22 rfl (oneAll rfl) (Nat.le_of_ble_eq_true rfl) rfl rfl ?_; intro w92 S93; clear S77
    refine wL_nil (wQ_A ?_)
    refine wA_one (n := 3) (i := 0) (by kernel_rfl) ?_
    refine wK_of (listed' := #[true, false, true, false, false]) rfl rfl ?_
    refine wL_val (wn rfl) rfl rfl (y_load rfl rfl (r_load Tryd.underlying22 rfl (St.cl 2 S93 rfl rfl))) ?_
    refine wL_nil (wQ_A ?_)
    refine wA_one (n := 2) (i := 1) (by kernel_rfl) ?_
    refine wK_of (listed' := #[true, true, true, false, false]) rfl rfl ?_
    refine wL_val (v := .int .i64 ((L.length : Nat) : Int)) (wn rfl) rfl rfl (y_builtin (vs := [.slice A L.length c]) rfl ⟨rfl, trivial⟩ fun _ => r_len rfl Tryd.underlying22) ?_
    refine wL_nil (wQ_A ?_)
    refine wA_one (n := 1) (i := 3) (by kernel_rfl) ?_
    refine wK_of (listed' := #[true, true, true, true, false]) rfl rfl ?_
    refine wL_st (cs := #[.int .i64 ((L.length : Nat) : Int)]) (row' := #[.int .i64 ((L.length : Nat) : Int)]) (fs' := [_, _, _, _, _, .blk r2 #[.int .i64 ((L.length : Nat) : Int)] 3, _, _, _]) 5 S93 (wn rfl) rfl rfl rfl rfl rfl rfl inf3 rfl (oneAll rfl) (Nat.le_of_ble_eq_true rfl) rfl rfl ?_; intro w94 S95; clear S93
    refine wL_nil (wQ_A ?_)
    refine wA_one (n := 0) (i := 4) (by kernel_rfl) ?_
    refine wK_of (listed' := #[true, true, true, true, true]) rfl rfl ?_
    refine wL_st (cs := #[.int .i64 3]) (row' := #[.int .i64 3]) (fs' := [_, _, _, _, _, _, .blk r3 #[.int .i64 3] 24, _, _]) 6 S95 (wn rfl) rfl rfl rfl rfl rfl rfl inf24 rfl (oneAll rfl) (Nat.le_of_ble_eq_true rfl) rfl rfl ?_; intro w96 S97; clear S95
    refine wL_nil (wQ_A ?_)
    refine wA_done (by kernel_rfl) ?_
    refine wQ_sub (l' := [(2, _), (3, _), (4, _)]) ⟨rfl, rfl, rfl, trivial⟩ (wQ_then (wC_ret (wQ_then_ret (wQ_blk_ret ?_))))
    have S98 : St w0.heap.size w0 w96 [_, _, _, _, _] := (St.del 0 (St.del 1 (St.del 2 (St.del 3 S97)))); clear S97
    exact fun _ _ => ⟨L.length, 3, by rw [hR]; exact line_bad hln (by omega) hX (fun h => h36 h.1), S98⟩
end In

end Go.Proofs.YtkjlafpafmihaaaDoor

namespace Go.Proofs.YtkjlafpafmihaaaDoor
open Go.ChangeShapes Go.WideShapes Go.RowKit
/-- One round: the loop's record ready, 's' handed over. -/
theorem read_round {w0 W : World} {text s rest : List UInt8} {L : List Ac} {A : Option Addr} {c bs bl r1 r2 r3 lp dp : Nat} {a : Act} {fn : FuncId} {l : Slots} (hF : Fr 37 l a) (h2 : lk l 2 = some (.pointer (some ⟨r1, 0, none⟩))) (h3 : lk l 3 = some (.pointer (some ⟨r2, 0, none⟩))) (h4 : lk l 4 = some (.pointer (some ⟨r3, 0, none⟩))) (h5 : lk l 5 = some (.pointer (some ⟨bl, 0, none⟩)))
    (hln : LineOf s rest) (hs : s.length ≤ 4000000) (hR : readC [] text [] = readC [] (s ++ rest) L) (hL : L.length ≤ 100000) (ht : TabB w0) (he : ErrVars w0)
    (S : St w0.heap.size w0 W [.blk bs #[str rest] 9, .blk bl #[.slice A L.length c] 22, .own 41 11 (.slice A L.length c) L.length ((L).flatMap Ac.cells), .blk r1 #[.slice none 0 0] 22, .blk r2 #[.int .i64 0] 3, .blk r3 #[.int .i64 0] 24, .loc lp (isLoop (recL a fn #[13] readAssign readBody dp .ready none)), .loc dp (isDefs (some []))]) :
    RoundIn Fence.wide 0 Tryd.prog lp fn (((#[13] : Array Tmp).zip #[str s]).foldl (fun t (p, v) => t.setIfInBounds p v) a.tmps) readAssign readBody W fun e W' =>
      (e = .returned (.bool true) ∧ GoB text rest w0 bs bl r1 r2 r3 lp dp (recL a fn #[13] readAssign readBody dp .ready none) W') ∨ (e = .returned (.bool false) ∧ EndB text w0 r1 r2 r3 lp dp (recL a fn #[13] readAssign readBody dp .done (some .ret)) W') := by
  refine roundIn_of_wpIn trivial ?_
  have hF1 : In.FrD [] 37 ((13, str s) :: l) { tmps := (((#[13] : Array Tmp).zip #[str s]).foldl (fun t (p, v) => t.setIfInBounds p v) a.tmps), defers := [] } := by
    have h := hF.put (d := 13) rfl (str s)
    have e : (((#[13] : Array Tmp).zip #[str s]).foldl (fun t (p, v) => t.setIfInBounds p v) a.tmps) = (a.put (some 13) (str s)).tmps := by simp [Act.put]
    rw [e]
    exact ⟨rfl, h.size, h.get⟩
  have key : In.wC (some lp) [] Tryd.prog 37 readAssign (Exit.then (fun a₁ w₁ => ∃ w₂, (Instr.beginRound lp).run Tryd.prog w₁ = .ok () w₂ ∧ readBody.wpIn (Fence.wide.inRound lp) 0 Tryd.prog (roundPost Tryd.prog lp (fun e W' =>
      (e = .returned (.bool true) ∧ GoB text rest w0 bs bl r1 r2 r3 lp dp (recL a fn #[13] readAssign readBody dp .ready none) W') ∨ (e = .returned (.bool false) ∧ EndB text w0 r1 r2 r3 lp dp (recL a fn #[13] readAssign readBody dp .done (some .ret)) W'))) a₁ w₂) (fun _ _ _ => False)) ((13, str s) :: l) W := by
    refine In.wC_region (In.wL_val (v := str s) (wn rfl) rfl rfl (y_assign rfl rfl) (In.wL_nil ?_))
    intro a1 F1
    obtain ⟨ob, hob, hob2⟩ := St.loc 6 S rfl
    have hob3 : ob = .loop (recL a fn #[13] readAssign readBody dp .ready none) := hob2
    subst hob3
    refine ⟨_, run_beginRound hob rfl, ?_⟩
    have S2 := S.putLoc (o' := .loop (recL a fn #[13] readAssign readBody dp .busy none)) (R' := isLoop (recL a fn #[13] readAssign readBody dp .busy none)) 6 rfl rfl
    have hb := In.read_body (o := recL a fn #[13] readAssign readBody dp .busy none) hln hs hR hL ht he S2
    have hsub : SubL ((6, str s) :: (13, str s) :: l) [(2, .pointer (some ⟨r1, 0, none⟩)), (3, .pointer (some ⟨r2, 0, none⟩)), (4, .pointer (some ⟨r3, 0, none⟩)), (5, .pointer (some ⟨bl, 0, none⟩)), (6, str s)] := ⟨h2, h3, h4, h5, rfl, trivial⟩
    refine wpIn_mono (hb a1 (F1.sub hsub)) ?_
    rintro e a3 W3 hq
    cases e with
    | normal =>
      obtain ⟨L', A', c', g1, g2, S3⟩ := hq
      obtain ⟨ob, hob, hob2⟩ := St.loc 6 S3 rfl
      have hob3 : ob = .loop (recL a fn #[13] readAssign readBody dp .busy none) := hob2
      subst hob3
      exact ⟨_, _, run_endRound none hob, .inl ⟨rfl, L', A', c', g1, g2, S3.putLoc (R' := isLoop (recL a fn #[13] readAssign readBody dp .ready none)) 6 rfl rfl⟩⟩
    | ret =>
      obtain ⟨k, v, g1, S3⟩ := hq
      obtain ⟨ob, hob, hob2⟩ := St.loc 3 S3 rfl
      have hob3 : ob = .loop (recL a fn #[13] readAssign readBody dp .busy none) := hob2
      subst hob3
      exact ⟨_, _, run_endRound (some .ret) hob, .inr ⟨rfl, k, v, g1, S3.putLoc (R' := isLoop (recL a fn #[13] readAssign readBody dp .done (some .ret))) 3 rfl rfl⟩⟩
    | exit id => exact hq.elim
    | goto t => exact hq.elim
    | panic ch => exact hq.elim
    | outgrown => exact hq.elim
  exact key _ hF1

def LinesPost (w : World) (s : List UInt8) (e : Ending) (w' : World) : Prop := ∃ b, e = .returned (.func (.func 28) #[] #[.pointer (some ⟨b, 0, none⟩)]) ∧ St w.heap.size w w' [.blk b #[str s] 9]

set_option maxRecDepth 100000 in
set_option maxHeartbeats 1000000 in
theorem Lines_calls (s : List UInt8) (w : World) :
    Calls Tryd.prog 17 #[str s] w (LinesPost w s) := by
 have S := St.start w
 refine calls_of_wC (N := 4) (vs := [str s]) Tryd.func17 rfl rfl rfl ?_
 refine wC_sub (l' := [(0, str s)]) ⟨rfl, trivial⟩ (wC_seq (wC_region (wL_new (V := fun b => .pointer (some ⟨b, 0, none⟩)) (row := #[str s]) (t := 9) S (wn rfl) rfl rfl (d_box rfl rfl rfl) ?_))); intro b1 w2 S3; clear S
 refine wL_val (v := .nilFunc) (wn rfl) rfl rfl (y_assign rfl rfl) ?_
 refine wL_nil (wQ_sub (l' := [(1, _), (2, _)]) ⟨rfl, rfl, trivial⟩ (wQ_then (wC_seq (wC_region (wL_val (v := .func (.func 28) #[] #[.pointer (some ⟨b1, 0, none⟩)]) (wn rfl) rfl rfl (y_makeFunc (xs := []) (ys := [.tmp 1]) (vs := []) (us := [.pointer (some ⟨b1, 0, none⟩)]) rfl trivial ⟨rfl, trivial⟩) ?_)))))
 refine wL_val (wn rfl) rfl rfl (y_assign rfl rfl) ?_
 refine wL_nil (wQ_sub (l' := [(1, _), (2, _)]) ⟨rfl, rfl, trivial⟩ (wQ_then (wC_ret (wQ_post (rs := [.tmp 2]) (vs := [.func (.func 28) #[] #[.pointer (some ⟨b1, 0, none⟩)]]) rfl ⟨rfl, trivial⟩ ?_))))
 exact ⟨_, rfl, S3⟩

set_option maxRecDepth 100000 in
set_option maxHeartbeats 4000000 in
theorem iter_calls {w0 W : World} {text : List UInt8} {bs bl r1 r2 r3 lp dp : Nat} {o o' : Loop} (htx : text.length ≤ 4000000) (hps : o.params.size = 1)
    (hY : ∀ s rest L A c W, LineOf s rest → s.length ≤ 4000000 → readC [] text [] = readC [] (s ++ rest) L → L.length ≤ 100000 → St w0.heap.size w0 W [.blk bs #[str rest] 9, .blk bl #[.slice A L.length c] 22, .own 41 11 (.slice A L.length c) L.length ((L).flatMap Ac.cells), .blk r1 #[.slice none 0 0] 22, .blk r2 #[.int .i64 0] 3, .blk r3 #[.int .i64 0] 24, .loc lp (isLoop (o)), .loc dp (isDefs (some []))] →
      RoundIn Fence.wide 0 Tryd.prog lp o.fn ((o.params.zip #[str s]).foldl (fun t (p, v) => t.setIfInBounds p v) o.tmps) o.assign o.body W fun e W' => (e = .returned (.bool true) ∧ GoB text rest w0 bs bl r1 r2 r3 lp dp o W') ∨ (e = .returned (.bool false) ∧ EndB text w0 r1 r2 r3 lp dp o' W'))
    (S : St w0.heap.size w0 W [.blk bs #[str text] 9, .blk bl #[.slice none (([] : List Ac).length) 0] 22, .own 41 11 (.slice none (([] : List Ac).length) 0) (([] : List Ac).length) ((([] : List Ac)).flatMap Ac.cells), .blk r1 #[.slice none 0 0] 22, .blk r2 #[.int .i64 0] 3, .blk r3 #[.int .i64 0] 24, .loc lp (isLoop (o)), .loc dp (isDefs (some []))]) :
    Calls Tryd.prog 28 #[.func (.yield lp) #[] #[], .pointer (some ⟨bs, 0, none⟩)] W (fun e W' => (∃ v, e = .returned v) ∧ (GoB text [] w0 bs bl r1 r2 r3 lp dp o W' ∨ EndB text w0 r1 r2 r3 lp dp o' W')) := by
 refine calls_of_wC (N := 25) (vs := [.func (.yield lp) #[] #[], .pointer (some ⟨bs, 0, none⟩)]) Tryd.func28 rfl rfl rfl ?_
 refine wC_sub (l' := [(0, .func (.yield lp) #[] #[]), (1, .pointer (some ⟨bs, 0, none⟩))]) ⟨rfl, rfl, trivial⟩ (wC_block (wC_loop (X := (List UInt8) × (List Ac) × (Option Addr) × Nat) (fun xv => [(0, .func (.yield lp) #[] #[]), (1, .pointer (some ⟨bs, 0, none⟩))]) (fun xv wr => (readC [] text [] = readC [] xv.1 xv.2.1) ∧ (xv.2.1.length ≤ 100000) ∧ (xv.1.length ≤ text.length) ∧ St w0.heap.size w0 wr [.blk bs #[str xv.1] 9, .blk bl #[.slice xv.2.2.1 xv.2.1.length xv.2.2.2] 22, .own 41 11 (.slice xv.2.2.1 xv.2.1.length xv.2.2.2) xv.2.1.length ((xv.2.1).flatMap Ac.cells), .blk r1 #[.slice none 0 0] 22, .blk r2 #[.int .i64 0] 3, .blk r3 #[.int .i64 0] 24, .loc lp (isLoop (o)), .loc dp (isDefs (some []))]) (fun xv => xv.1.length) (text, [], none, 0) ?_ ?_ ?_))
 ·exact ⟨rfl, Nat.zero_le _, Nat.le_refl _, S⟩
 ·exact ⟨rfl, rfl, trivial⟩
 ·rintro ⟨t, L, A, c⟩ w1 ⟨hi3, hi4, hi5, S2⟩
  try dsimp only at hi3 hi4 hi5 S2; clear S
  refine wC_sub (l' := [(0, .func (.yield lp) #[] #[]), (1, .pointer (some ⟨bs, 0, none⟩))]) ⟨rfl, rfl, trivial⟩ (wC_seq (wC_seq (wC_region (wL_val (wn rfl) rfl rfl (y_load rfl rfl (r_load Tryd.underlying9 rfl (St.cl 0 S2 rfl rfl))) ?_))))
  refine wL_val (v := .int .i64 ((t.length : Nat) : Int)) (wn rfl) rfl rfl (y_builtin (vs := [str t]) rfl ⟨rfl, trivial⟩ fun _ => r_slen rfl Tryd.underlying9) ?_
  by_cases h6 : 0 < ((t.length : Nat) : Int)
  ·refine wL_val (v := .bool true) (wn rfl) rfl rfl (y_binop rfl rfl rfl (r_gtr_t h6)) ?_
   refine wL_nil (wQ_sub (l' := [(0, _), (1, _), (7, _)]) ⟨rfl, rfl, rfl, trivial⟩ (wQ_then (wC_cond_t rfl (wC_skip (wQ_then (wC_block (wC_seq (wC_region (wL_val (wn rfl) rfl rfl (y_assign rfl rfl) ?_)))))))))
   refine wL_nil (wQ_sub (l' := [(0, _), (1, _)]) ⟨rfl, rfl, trivial⟩ (wQ_then (wC_seq (wC_seq (wC_region (wL_val (wn rfl) rfl rfl (y_load rfl rfl (r_load Tryd.underlying9 rfl (St.cl 0 S2 rfl rfl))) ?_))))))
   refine wL_call (wn rfl) rfl rfl (e_call (vs := [str t, .int .u8 10]) rfl en29 ⟨rfl, rfl, trivial⟩) (idx_calls ⟨t.toArray⟩ _) ?_
   rintro _ w7 ⟨rfl, rfl⟩
   refine ⟨_, rfl, ?_⟩
   refine wL_val (wn rfl) rfl rfl (y_assign rfl rfl) ?_
   refine wL_nil (wQ_sub (l' := [(0, _), (1, _), (4, _)]) ⟨rfl, rfl, rfl, trivial⟩ (wQ_then (wC_seq (wC_region (wL_val (wn rfl) rfl rfl (y_move rfl rfl) ?_)))))
   by_cases h8 : 0 ≤ Lib.indexByte t 10
   ·refine wL_val (v := .bool true) (wn rfl) rfl rfl (y_binop rfl rfl rfl (r_geq_t h8)) ?_
    refine wL_nil (wQ_sub (l' := [(0, _), (1, _), (4, _), (11, _)]) ⟨rfl, rfl, rfl, rfl, trivial⟩ (wQ_then (wC_cond_t rfl ?_)))
    obtain ⟨i, hi⟩ : ∃ i : Nat, Lib.indexByte t 10 = (i : Int) := ⟨(Lib.indexByte t 10).toNat, by omega⟩
    rw [hi]
    obtain ⟨hlt, hln⟩ := cut_pos hi
    have S9 := S2.drew; clear S2
    refine wC_head (C := fun w' => St w0.heap.size w0 w' [.blk bs #[str t] 9, .blk bl #[.slice A L.length c] 22, .own 41 11 (.slice A L.length c) L.length ((L).flatMap Ac.cells), .blk r1 #[.slice none 0 0] 22, .blk r2 #[.int .i64 0] 3, .blk r3 #[.int .i64 0] 24, .loc lp (isLoop (o)), .loc dp (isDefs (some []))]) (m := 10) (listed := #[false, false, false, false, false, false, false, false, false, false]) 9 mixed rfl rfl ?_
    refine wG_take (v := str t) (i := 0) (m := 9) rfl (by kernel_rfl) (by kernel_rfl) (by kernel_rfl) rfl (by kernel_rfl) rfl S9 rfl (wn rfl) rfl rfl (fun _ Sx10 => (y_load rfl rfl (r_load Tryd.underlying9 rfl (St.cl 0 Sx10 rfl rfl)))) ?_
    refine wG_take (v := .int .i64 ((i : Nat) : Int)) (i := 1) (m := 8) rfl (by kernel_rfl) (by kernel_rfl) (by kernel_rfl) rfl (by kernel_rfl) rfl S9 rfl (wn rfl) rfl rfl (fun _ _ => (y_move rfl rfl)) ?_
    refine wG_take (v := .int .i64 ((i + 1 : Nat) : Int)) (i := 2) (m := 7) rfl (by kernel_rfl) (by kernel_rfl) (by kernel_rfl) rfl (by kernel_rfl) rfl S9 rfl (wn rfl) rfl rfl (fun _ _ => (y_binop rfl rfl rfl (r_add (by omega) (by omega)))) ?_
    refine wG_take (v := str (t.take (i + 1))) (i := 3) (m := 6) rfl (by kernel_rfl) (by kernel_rfl) (by kernel_rfl) rfl (by kernel_rfl) rfl S9 rfl (wn rfl) rfl rfl (fun _ _ => (y_slice rfl rfl evo_n (evo_s rfl) evo_n (r_ssl_to Tryd.underlying9 (by omega) rfl))) ?_
    refine wG_take (v := str t) (i := 4) (m := 5) rfl (by kernel_rfl) (by kernel_rfl) (by kernel_rfl) rfl (by kernel_rfl) rfl S9 rfl (wn rfl) rfl rfl (fun _ Sx14 => (y_load rfl rfl (r_load Tryd.underlying9 rfl (St.cl 0 Sx14 rfl rfl)))) ?_
    refine wG_take (v := .int .i64 ((i : Nat) : Int)) (i := 5) (m := 4) rfl (by kernel_rfl) (by kernel_rfl) (by kernel_rfl) rfl (by kernel_rfl) rfl S9 rfl (wn rfl) rfl rfl (fun _ _ => (y_move rfl rfl)) ?_
    refine wG_take (v := .int .i64 ((i + 1 : Nat) : Int)) (i := 6) (m := 3) rfl (by kernel_rfl) (by kernel_rfl) (by kernel_rfl) rfl (by kernel_rfl) rfl S9 rfl (wn rfl) rfl rfl (fun _ _ => (y_binop rfl rfl rfl (r_add (by omega) (by omega)))) ?_
    refine wG_take (v := str (t.drop (i + 1))) (i := 7) (m := 2) rfl (by kernel_rfl) (by kernel_rfl) (by kernel_rfl) rfl (by kernel_rfl) rfl S9 rfl (wn rfl) rfl rfl (fun _ _ => (y_slice rfl rfl (evo_s rfl) evo_n evo_n (r_ssl_from Tryd.underlying9 (by omega) rfl))) ?_
    refine wG_take (v := str (t.take (i + 1))) (i := 8) (m := 1) rfl (by kernel_rfl) (by kernel_rfl) (by kernel_rfl) rfl (by kernel_rfl) rfl S9 rfl (wn rfl) rfl rfl (fun _ _ => (y_assign rfl rfl)) ?_
    refine wG_tail (by kernel_rfl) rfl rfl rfl ?_
    refine wL_st (cs := #[str (t.drop (i + 1))]) (row' := #[str (t.drop (i + 1))]) (fs' := [.blk bs #[str (t.drop (i + 1))] 9, _, _, _, _, _, _, _]) 0 S9 (wn rfl) rfl rfl rfl rfl rfl rfl inf9 rfl (oneAll rfl) (Nat.le_of_ble_eq_true rfl) rfl rfl ?_; intro w19 S20; clear S9
    refine wL_nil (wQ_np ?_)
    refine wQ_sub (l' := [(0, _), (1, _), (3, _)]) ⟨rfl, rfl, rfl, trivial⟩ (wQ_then (wC_seq ?_))
    obtain ⟨ob, hob, hob2⟩ := St.loc 6 S20 rfl
    have hob3 : ob = .loop o := hob2
    subst hob3
    have hsr : (t.take (i + 1)) ++ (t.drop (i + 1)) = t := List.take_append_drop _ _
    have HY := hY (t.take (i + 1)) (t.drop (i + 1)) L A c _ hln (by rw [List.length_take]; omega) (by rw [hsr]; exact hi3) hi4 S20
    refine wC_of_In (In.wC_region (In.wL_val (wn rfl) rfl rfl (y_move rfl rfl) (In.wL_val (wn rfl) rfl rfl (y_move rfl rfl) (In.wL_yield (rec := o) (wn rfl) rfl rfl rfl rfl rfl hob hps (HY.mono ?_)))))
    rintro e W' (⟨rfl, hg⟩ | ⟨rfl, he⟩)
    ·obtain ⟨L2, A2, c2, hR2, hL2, S2⟩ := hg
     refine ⟨_, rfl, In.wL_val (v := .bool false) (wn rfl) rfl rfl (y_unop rfl rfl r_not) (In.wL_nil (In.wQ_of ?_))⟩
     refine wQ_sub (l' := [(0, _), (1, _), (24, _)]) ⟨rfl, rfl, rfl, trivial⟩ (wQ_then (wC_cond_f rfl (wC_skip (wQ_blk_n (wQ_round (t.drop (i + 1), L2, A2, c2) ?_ ⟨rfl, rfl, trivial⟩ (by dsimp only; rw [List.length_drop]; omega))))))
     exact ⟨(by dsimp only; exact hR2), (by dsimp only; exact hL2), (by dsimp only; rw [List.length_drop]; omega), S2⟩
    ·have S0 := trivial
     refine ⟨_, rfl, In.wL_val (v := .bool true) (wn rfl) rfl rfl (y_unop rfl rfl r_not) (In.wL_nil (In.wQ_of ?_))⟩
     refine wQ_sub (l' := [(0, _), (1, _), (24, _)]) ⟨rfl, rfl, rfl, trivial⟩ (wQ_then (wC_cond_t rfl (wC_ret (wQ_blk_ret (wQ_then_ret (wQ_blk_ret (wQ_post (rs := []) (vs := []) rfl trivial ?_)))))))
     exact ⟨⟨_, rfl⟩, .inr he⟩
   ·refine wL_val (v := .bool false) (wn rfl) rfl rfl (y_binop rfl rfl rfl (r_geq_f h8)) ?_
    refine wL_nil (wQ_sub (l' := [(0, _), (1, _), (4, _), (11, _)]) ⟨rfl, rfl, rfl, rfl, trivial⟩ (wQ_then (wC_cond_f rfl ?_)))
    have hne : t ≠ [] := fun e => by subst e; simp at *
    have hln := cut_neg h8 hne
    refine wC_region (wL_val (wn rfl) rfl rfl (y_load rfl rfl (r_load Tryd.underlying9 rfl (St.cl 0 S2 rfl rfl))) ?_)
    refine wL_val (wn rfl) rfl rfl (y_assign rfl rfl) ?_
    refine wL_st (cs := #[.string ⟨#[]⟩]) (row' := #[.string ⟨#[]⟩]) (fs' := [.blk bs #[.string ⟨#[]⟩] 9, _, _, _, _, _, _, _]) 0 S2 (wn rfl) rfl rfl rfl rfl rfl rfl inf9 rfl (oneAll rfl) (Nat.le_of_ble_eq_true rfl) rfl rfl ?_; intro w21 S22; clear S2
    refine wL_nil (wQ_sub (l' := [(0, _), (1, _), (3, _)]) ⟨rfl, rfl, rfl, trivial⟩ (wQ_then (wC_seq ?_)))
    obtain ⟨ob, hob, hob2⟩ := St.loc 6 S22 rfl
    have hob3 : ob = .loop o := hob2
    subst hob3
    have hsr : t ++ [] = t := List.append_nil _
    have HY := hY t [] L A c _ hln (by omega) (by rw [hsr]; exact hi3) hi4 S22
    refine wC_of_In (In.wC_region (In.wL_val (wn rfl) rfl rfl (y_move rfl rfl) (In.wL_val (wn rfl) rfl rfl (y_move rfl rfl) (In.wL_yield (rec := o) (wn rfl) rfl rfl rfl rfl rfl hob hps (HY.mono ?_)))))
    rintro e W' (⟨rfl, hg⟩ | ⟨rfl, he⟩)
    ·obtain ⟨L2, A2, c2, hR2, hL2, S2⟩ := hg
     refine ⟨_, rfl, In.wL_val (v := .bool false) (wn rfl) rfl rfl (y_unop rfl rfl r_not) (In.wL_nil (In.wQ_of ?_))⟩
     refine wQ_sub (l' := [(0, _), (1, _), (24, _)]) ⟨rfl, rfl, rfl, trivial⟩ (wQ_then (wC_cond_f rfl (wC_skip (wQ_blk_n (wQ_round ([], L2, A2, c2) ?_ ⟨rfl, rfl, trivial⟩ (by dsimp only; simp only [List.length_nil]; omega))))))
     exact ⟨(by dsimp only; exact hR2), (by dsimp only; exact hL2), (by dsimp only; simp), S2⟩
    ·have S0 := trivial
     refine ⟨_, rfl, In.wL_val (v := .bool true) (wn rfl) rfl rfl (y_unop rfl rfl r_not) (In.wL_nil (In.wQ_of ?_))⟩
     refine wQ_sub (l' := [(0, _), (1, _), (24, _)]) ⟨rfl, rfl, rfl, trivial⟩ (wQ_then (wC_cond_t rfl (wC_ret (wQ_blk_ret (wQ_then_ret (wQ_blk_ret (wQ_post (rs := []) (vs := []) rfl trivial ?_)))))))
     exact ⟨⟨_, rfl⟩, .inr he⟩
  ·refine wL_val (v := .bool false) (wn rfl) rfl rfl (y_binop rfl rfl rfl (r_gtr_f h6)) ?_
   refine wL_nil (wQ_sub (l' := [(0, _), (1, _), (7, _)]) ⟨rfl, rfl, rfl, trivial⟩ (wQ_then (wC_cond_f rfl (wC_exit (wQ_then_exit (wQ_then_exit (wQ_blk_same (wQ_post_n (rs := []) (vs := []) rfl trivial ?_))))))))
   obtain rfl : t = [] := List.eq_nil_of_length_eq_zero (by omega)
   exact ⟨⟨_, rfl⟩, .inl ⟨L, A, c, hi3, hi4, S2⟩⟩

end Go.Proofs.YtkjlafpafmihaaaDoor

namespace Go.Proofs.YtkjlafpafmihaaaDoor
open Go.ChangeShapes Go.WideShapes Go.RowKit
noncomputable def readTail : Code := sqR (sqR (sqR (sqR (Tryd.f9.body.getD .skip))))
theorem res_cell {P : Program} {B : Nat} {w0 w : World} {fs : List Fact} {b : Nat} {row : Array Value} {t ty : TypeId} {ds : TypeDesc} {v : Value} (i : Nat) (S : St B w0 w fs) (hi : fs[i]? = some (.blk b row t)) (hu : P.underlying ty = some ds) (hd : ds.isRow = false) (hk : row[0]? = some v) :
    (loadVar ty ⟨b, 0, none⟩).run P w = .ok v w := by
  have h := r_load (P := P) (t := ty) hu hd (St.cl i S hi hk)
  simpa [Instr.loadAt, Instr.sureAddr, asAddr, Sem.run_bind, Result.andThen] using h
abbrev readQ (w : World) (text : List UInt8) : Exit → Act → World → Prop := bodyPostM Fence.wide 0 Tryd.prog Tryd.f9 (ReadPost w (readM text))

namespace In
set_option maxRecDepth 100000 in
theorem read_tail {w0 W : World} {text : List UInt8} {L : List Ac} {A : Option Addr} {c bs bl r1 r2 r3 lp dp : Nat} {o : Loop} (hM : readM text = readC [] text []) (hR : readC [] text [] = (L, 0, 0))
    (S : St w0.heap.size w0 W [.blk bs #[str []] 9, .blk bl #[.slice A L.length c] 22, .own 41 11 (.slice A L.length c) L.length ((L).flatMap Ac.cells), .blk r1 #[.slice none 0 0] 22, .blk r2 #[.int .i64 0] 3, .blk r3 #[.int .i64 0] 24, .loc lp (isLoop (o)), .loc dp (isDefs (some []))]) :
    In.wC none [markD dp] Tryd.prog 37 readTail (readQ w0 text) [(2, .pointer (some ⟨r1, 0, none⟩)), (3, .pointer (some ⟨r2, 0, none⟩)), (4, .pointer (some ⟨r3, 0, none⟩)), (5, .pointer (some ⟨bl, 0, none⟩))] W := by
 refine wC_seq (wC_region (wL_val (wn rfl) rfl rfl (y_load rfl rfl (r_load Tryd.underlying22 rfl (St.cl 1 S rfl rfl))) ?_))
 refine wL_st (cs := #[.slice A L.length c]) (row' := #[.slice A L.length c]) (fs' := [_, _, _, .blk r1 #[.slice A L.length c] 22, _, _, _, _]) 3 S (wn rfl) rfl rfl rfl rfl rfl rfl inf22 rfl (oneAll rfl) (Nat.le_of_ble_eq_true rfl) rfl rfl ?_; intro w1 S2; clear S
 refine wL_st (cs := #[.int .i64 0]) (row' := #[.int .i64 0]) (fs' := [_, _, _, _, .blk r2 #[.int .i64 0] 3, _, _, _]) 4 S2 (wn rfl) rfl rfl rfl rfl rfl rfl inf3 rfl (oneAll rfl) (Nat.le_of_ble_eq_true rfl) rfl rfl ?_; intro w3 S4; clear S2
 refine wL_st (cs := #[.int .i64 0]) (row' := #[.int .i64 0]) (fs' := [_, _, _, _, _, .blk r3 #[.int .i64 0] 24, _, _]) 5 S4 (wn rfl) rfl rfl rfl rfl rfl rfl inf24 rfl (oneAll rfl) (Nat.le_of_ble_eq_true rfl) rfl rfl ?_; intro w5 S6; clear S4
 refine wL_nil (wQ_sub (l' := [(2, _), (3, _), (4, _)]) ⟨rfl, rfl, rfl, trivial⟩ (wQ_then (wC_ret (wQ_postM (rs := [.cell 2 22, .cell 3 3, .cell 4 24]) (vs := [.slice A L.length c, .int .i64 0, .int .i64 0]) (j := 7) S6 rfl rfl ?_)))); intro w' S9
 refine ⟨⟨⟨_, rfl, res_cell 3 S9 rfl Tryd.underlying22 rfl rfl⟩, ⟨_, rfl, res_cell 4 S9 rfl Tryd.underlying3 rfl rfl⟩, ⟨_, rfl, res_cell 5 S9 rfl Tryd.underlying24 rfl rfl⟩, trivial⟩, ?_⟩
 rw [hM, hR]
 exact ⟨A, c, rfl, (S9.sealAll 2 rfl).re [2] (by decide)⟩
theorem read_end {w0 W : World} {text : List UInt8} {l : Slots} {r1 r2 r3 lp dp k : Nat} {v : Int} {o : Loop} (h2 : lk l 2 = some (.pointer (some ⟨r1, 0, none⟩))) (h3 : lk l 3 = some (.pointer (some ⟨r2, 0, none⟩))) (h4 : lk l 4 = some (.pointer (some ⟨r3, 0, none⟩)))
    (hM : readM text = readC [] text []) (hR : readC [] text [] = ([], k, v)) (S : St w0.heap.size w0 W [.blk r1 #[.slice none 0 0] 22, .blk r2 #[.int .i64 ((k : Nat) : Int)] 3, .blk r3 #[.int .i64 v] 24, .loc lp (isLoop o), .loc dp (isDefs (some []))]) :
    In.wQ [markD dp] 37 (readQ w0 text) .ret l W := by
  refine wQ_postM (rs := [.cell 2 22, .cell 3 3, .cell 4 24]) (vs := [.slice none 0 0, .int .i64 ((k : Nat) : Int), .int .i64 v]) (j := 4) S rfl rfl ?_
  intro w' S9
  refine ⟨⟨⟨_, h2, res_cell 0 S9 rfl Tryd.underlying22 rfl rfl⟩, ⟨_, h3, res_cell 1 S9 rfl Tryd.underlying3 rfl rfl⟩, ⟨_, h4, res_cell 2 S9 rfl Tryd.underlying24 rfl rfl⟩, trivial⟩, ?_⟩
  rw [hM, hR]
  exact ReadPost.none S9
end In

set_option maxRecDepth 100000 in
set_option maxHeartbeats 4000000 in
theorem Read_calls (text : List UInt8) (w : World) (ht : TabB w) (he : ErrVars w) :
    Calls Tryd.prog 9 #[str text] w (ReadPost w (readM text)) := by
 have S := St.start w
 refine calls_of_wCM (N := 37) (vs := [str text]) Tryd.func9 rfl rfl rfl ?_
 refine wC_sub (l' := [(0, str text)]) ⟨rfl, trivial⟩ (wC_seq (wC_region (wL_new (V := fun b => .pointer (some ⟨b, 0, none⟩)) (row := #[.slice none 0 0]) (t := 22) S (wn rfl) rfl rfl (d_alloc rfl (Tryd.zeroValue22 _) rfl) ?_))); intro b1 w2 S3; clear S
 refine wL_new (V := fun b => .pointer (some ⟨b, 0, none⟩)) (row := #[.int .i64 0]) (t := 3) S3 (wn rfl) rfl rfl (d_alloc rfl (Tryd.zeroValue3 _) rfl) ?_; intro b4 w5 S6; clear S3
 refine wL_new (V := fun b => .pointer (some ⟨b, 0, none⟩)) (row := #[.int .i64 0]) (t := 24) S6 (wn rfl) rfl rfl (d_alloc rfl (Tryd.zeroValue24 _) rfl) ?_; intro b7 w8 S9; clear S6
 refine wL_nil (wQ_then (wC_seq (wC_seq (wC_region (wL_val (wn rfl) rfl rfl (y_move rfl rfl) ?_)))))
 refine wL_val (v := .int .i64 ((text.length : Nat) : Int)) (wn rfl) rfl rfl (y_builtin (vs := [str text]) rfl ⟨rfl, trivial⟩ fun _ => r_slen rfl Tryd.underlying9) ?_
 by_cases h10 : 4000000 < ((text.length : Nat) : Int)
 ·refine wL_val (v := .bool true) (wn rfl) rfl rfl (y_binop rfl rfl rfl (r_gtr_t h10)) ?_
  refine wL_nil (wQ_sub (l' := [(0, _), (2, _), (3, _), (4, _), (10, _)]) ⟨rfl, rfl, rfl, rfl, rfl, trivial⟩ (wQ_then (wC_cond_t rfl (wC_seq (wC_region (wL_st (cs := #[.slice none 0 0]) (row' := #[.slice none 0 0]) (fs' := [_, _, .blk b1 #[.slice none 0 0] 22]) 2 S9 (wn rfl) rfl rfl rfl rfl rfl rfl inf22 rfl (oneAll rfl) (Nat.le_of_ble_eq_true rfl) rfl rfl ?_)))))); intro w11 S12; clear S9
  refine wL_st (cs := #[.int .i64 0]) (row' := #[.int .i64 0]) (fs' := [_, .blk b4 #[.int .i64 0] 3, _]) 1 S12 (wn rfl) rfl rfl rfl rfl rfl rfl inf3 rfl (oneAll rfl) (Nat.le_of_ble_eq_true rfl) rfl rfl ?_; intro w13 S14; clear S12
  refine wL_st (cs := #[.int .i64 1]) (row' := #[.int .i64 1]) (fs' := [.blk b7 #[.int .i64 1] 24, _, _]) 0 S14 (wn rfl) rfl rfl rfl rfl rfl rfl inf24 rfl (oneAll rfl) (Nat.le_of_ble_eq_true rfl) rfl rfl ?_; intro w15 S16; clear S14
  refine wL_nil (wQ_sub (l' := [(2, _), (3, _), (4, _)]) ⟨rfl, rfl, rfl, trivial⟩ (wQ_then (wC_ret (wQ_then_ret ?_))))
  have S17 : St w.heap.size w w15 [_, _, _] := S16.re [2, 1, 0] (by decide); clear S16
  refine wQ_post_M (rs := [.cell 2 22, .cell 3 3, .cell 4 24]) (vs := [.slice none 0 0, .int .i64 0, .int .i64 1]) rfl ⟨⟨_, rfl, res_cell 0 S17 rfl Tryd.underlying22 rfl rfl⟩, ⟨_, rfl, res_cell 1 S17 rfl Tryd.underlying3 rfl rfl⟩, ⟨_, rfl, res_cell 2 S17 rfl Tryd.underlying24 rfl rfl⟩, trivial⟩ ?_
  rw [readM_big (by omega)]
  exact ReadPost.none S17
 ·refine wL_val (v := .bool false) (wn rfl) rfl rfl (y_binop rfl rfl rfl (r_gtr_f h10)) ?_
  refine wL_nil (wQ_sub (l' := [(0, _), (2, _), (3, _), (4, _), (10, _)]) ⟨rfl, rfl, rfl, rfl, rfl, trivial⟩ (wQ_then (wC_cond_f rfl (wC_skip (wQ_then (wC_seq (wC_region (wL_new (V := fun b => .pointer (some ⟨b, 0, none⟩)) (row := #[.slice none 0 0]) (t := 22) S9 (wn rfl) rfl rfl (d_alloc rfl (Tryd.zeroValue22 _) rfl) ?_)))))))); intro b18 w19 S20; clear S9
  refine wL_nil (wQ_sub (l' := [(0, _), (2, _), (3, _), (4, _), (5, _)]) ⟨rfl, rfl, rfl, rfl, rfl, trivial⟩ (wQ_then (wC_seq (wC_seq (wC_region (wL_val (wn rfl) rfl rfl (y_move rfl rfl) ?_))))))
  refine wL_call (wn rfl) rfl rfl (e_call (vs := [str text]) rfl en17 ⟨rfl, trivial⟩) (Lines_calls text _) ?_
  rintro _ w22 ⟨b21, rfl, T24⟩
  refine ⟨_, rfl, ?_⟩
  have S23 := S20.ext T24 rfl; clear T24 S20
  change St _ _ _ [.blk b21 #[str text] 9, _, _, _, _] at S23
  refine wL_nil (wQ_sub (l' := [(2, _), (3, _), (4, _), (5, _), (12, _)]) ⟨rfl, rfl, rfl, rfl, rfl, trivial⟩ (wQ_then (wC_block ?_)))
  have hM := readM_go h10
  have hle : text.length ≤ 4000000 := by omega
  have S25 := S23.nil 41 11; clear S23
  change St _ _ _ [.own 41 11 (.slice none 0 0) 0 ((([] : List Ac)).flatMap Ac.cells), _, _, _, _, _] at S25
  have S26 : St w.heap.size w w22 [_, _, _, _, _, _] := S25.re [1, 2, 0, 5, 4, 3] (by decide); clear S25
  refine wC_rangeFunc S26 rfl (by exact en28) ?_; intro a fn lp dp w1 F S1
  have S3 := S1.re [2, 3, 4, 5, 6, 7, 0, 1] (by decide)
  have HI := iter_calls (o' := recL a fn #[13] readAssign readBody dp .done (some .ret)) hle rfl (fun s rest L A c W hln hs hR hL S => read_round F rfl rfl rfl rfl hln hs hR hL ht he S) S3
  refine HI.mono ?_
  rintro e w3 ⟨hv, hg | hg⟩
  ·obtain ⟨L, A, c, hR, hL, S4⟩ := hg
   obtain ⟨ob, hob, hob2⟩ := St.loc 6 S4 rfl
   have hob3 : ob = .loop (recL a fn #[13] readAssign readBody dp .ready none) := hob2
   subst hob3
   refine ⟨hv, .inl ⟨_, run_endLoop hob (by simp [recL]), ?_⟩⟩
   have S5 := S4.putLoc (R' := isLoop (recL a fn #[13] readAssign readBody dp .exhausted none)) (o' := .loop (recL a fn #[13] readAssign readBody dp .exhausted none)) 6 rfl rfl
   exact In.wQ_blk_n (wQ_thenR (In.wC_sub (l' := [(2, .pointer (some ⟨b1, 0, none⟩)), (3, .pointer (some ⟨b4, 0, none⟩)), (4, .pointer (some ⟨b7, 0, none⟩)), (5, .pointer (some ⟨b18, 0, none⟩))]) ⟨rfl, rfl, rfl, rfl, trivial⟩ (In.read_tail hM hR S5)))
  ·obtain ⟨k, v, hR, S4⟩ := hg
   obtain ⟨ob, hob, hob2⟩ := St.loc 3 S4 rfl
   have hob3 : ob = .loop (recL a fn #[13] readAssign readBody dp .done (some .ret)) := hob2
   subst hob3
   refine ⟨hv, .inr ⟨_, run_endLoop hob (by simp [recL]), ?_⟩⟩
   have S5 := S4.putLoc (R' := isLoop (recL a fn #[13] readAssign readBody dp .exhausted (some .ret))) (o' := .loop (recL a fn #[13] readAssign readBody dp .exhausted (some .ret))) 3 rfl rfl
   exact In.wQ_blk_ret (wQ_thenR_ret (In.read_end rfl rfl rfl hM hR S5))

end Go.Proofs.YtkjlafpafmihaaaDoor

namespace Go.Proofs.YtkjlafpafmihaaaDoor
open Go.ChangeShapes Go.WideShapes Go.RowKit

theorem readC_len : ∀ (t cur : List UInt8) (l : List Ac), l.length ≤ 100000 → (readC cur t l).1.length ≤ 100000
  | [], cur, l, h => by
    rw [readC]
    split
    · exact h
    · split <;> exact Nat.zero_le _
  | c :: t, cur, l, h => by
    rw [readC]
    split
    · split
      · exact Nat.zero_le _
      · rename_i hn
        split
        · exact Nat.zero_le _
        · exact readC_len t [] _ (by rw [List.length_append, List.length_singleton]; omega)
    · exact readC_len t _ l h
theorem readM_len (t : List UInt8) : (readM t).1.length ≤ 100000 := by
  unfold readM
  split
  · exact Nat.zero_le _
  · exact readC_len t [] [] (Nat.zero_le _)

set_option maxRecDepth 100000 in
set_option maxHeartbeats 2000000 in
theorem linesReads_calls (text : List UInt8) (w : World) (ht : TabB w) (he : ErrVars w) :
    Calls Tryd.prog 4 #[str text] w (fun e w' => e = .returned (.bool true) ∧ Below w.heap.size w w') := by
 have S := St.start w
 have H1 := fun w ht he => Read_calls text w ht he
 have H2 := fun w => ActsRead_calls text w
 have hRl := readM_len text
 generalize readM text = R at H1 H2 hRl
 refine fnw 34 Tryd.func4 ?_
 refine cw [0] ?_
 refine x_sr (va ?_)
 refine wL_nil (wQ_then (wC_seq (wC_region (vm ?_))))
 refine cal en9 (H1 _ (ht.on S.low) (he.on S.low)) ?_
 rintro _ w3 ⟨A1, c2, rfl, T5⟩
 refine ⟨_, rfl, ?_⟩
 have S4 := S.ext T5 rfl; clear T5 S
 change St _ _ _ [.rdo 11 A1 R.1.length ((R.1).flatMap Ac.cells)] at S4
 refine vm ?_
 refine vv yx ?_
 refine vv yx ?_
 refine vv yx ?_
 iterate 3 refine va ?_
 refine qk [0, 2, 3, 4, 5] ?_
 refine x_tsr (vm ?_)
 refine cal en10 (H2 _) ?_
 rintro _ w8 ⟨A6, c7, rfl, T10⟩
 refine ⟨_, rfl, ?_⟩
 have S9 := S4.ext T10 rfl; clear T10 S4
 change St _ _ _ [.rdo 11 A6 R.1.length ((R.1).flatMap Ac.cells), _] at S9
 refine vm ?_
 refine vv yx ?_
 refine vv yx ?_
 refine vv yx ?_
 iterate 3 refine va ?_
 refine qk [2, 3, 4, 5, 6, 7, 8] ?_
 refine x_tsr (vm ?_)
 refine vm ?_
 refine vv (yeqlT rfl) ?_
 refine vm ?_
 refine vg ym ?_
 refine vg ym ?_
 refine vg (yeqlT rfl) ?_
 refine vv ypT ?_
 refine vm ?_
 refine vg ym ?_
 refine vg ym ?_
 refine calg en8 (sameActs_calls A1 A6 c2 c7 R.1 _ (St.rdo 1 S9 rfl) (St.rdo 0 S9 rfl) (by omega)) ?_
 rintro _ w11 ⟨rfl, hb13⟩
 refine ⟨_, rfl, ?_⟩
 have S12 := S9.on hb13; clear hb13 S9
 refine vv ypT ?_
 refine va ?_
 refine qk [2] ?_
 refine x_te (pt ?_)
 exact ⟨rfl, S12.low⟩

set_option maxRecDepth 100000 in
theorem arg_text {W : World} {v : Value} (h : ArgOk Tryd.prog W v 9) : ∃ t : List UInt8, v = str t := by
  obtain ⟨⟨base, hk⟩, _⟩ := h
  obtain ⟨s, rfl⟩ := okWide_string Tryd.underlying9 hk
  exact ⟨s.data.toList, str_eq rfl⟩
set_option maxRecDepth 100000 in
theorem linesReads_walk (W : World) (ht : TabB W) (he : ErrVars W) (args : Array Value) (h : All2 (ArgOk Tryd.prog W) args.toList Tryd.f4.params.toList) :
    Calls Tryd.prog 4 args W fun e W' => e = .returned (.bool true) ∧ Below W.heap.size W W' := by
  rw [Tryd.params4] at h
  obtain ⟨v, l1, hv, h1, h0⟩ := All2.cons_ h
  have h4 := All2.nil_ h0
  subst h4
  obtain rfl : args = #[v] := by cases args; simp_all
  obtain ⟨t, rfl⟩ := arg_text h1
  exact linesReads_calls t W ht he
end Go.Proofs.YtkjlafpafmihaaaDoor

