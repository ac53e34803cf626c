/- The package's variable as the row lists it; a law's contract at one world; a world for the witness. -/
import Derived.Test.YtefkifgonadiiabDoorDir
import Derived.Test.YtefkifgonadiiabDoorCards
import Derived.Test.YtefkifgonadiiabDoorTie
import Derived.Deep.DeepHandedRow
import Derived.Lib.LaidTab
namespace Go.Proofs.YtefkifgonadiiabDoor
open Go.ChangeShapes Go.WideShapes Go.ChangeAt Go.RowKit

theorem dir_own : ownKnob Tryd.prog.godebug = none := by kernel_rfl
theorem gNowhere : Tryd.prog.globalNamed "berthshift/directory.nowhere" = some 0 := by kernel_rfl
theorem gNowhereType : (Tryd.prog.globals[0]?).map (·.type) = some 23 := by kernel_rfl

theorem lt_of_cell {w : World} {p : Addr} {u : Value} (h : w.cell? p = some u) : p.block < w.heap.size := by
  rcases Nat.lt_or_ge p.block w.heap.size with h1 | h1
  · exact h1
  · have h2 : w.heap[p.block]? = none := Array.getElem?_eq_none h1
    simp [World.cell?, h2] at h

theorem laid_nw {W : World} (h : laidMet Tryd.prog [("berthshift/directory.nowhere", Rows.laid_berthshift_directory_nowhere)] W) : Nw W := by
  obtain ⟨ps, ⟨g', t', cs, fuel, p, q, hg', ht', hvar, hd, _, _⟩, _⟩ := h
  obtain rfl := Option.some.inj (gNowhere.symm.trans hg')
  obtain rfl := Option.some.inj (gNowhereType.symm.trans ht')
  obtain ⟨y0, y1, n, e, hl, h0, h1⟩ := trod_struct2 Tryd.underlying23 hd
  obtain ⟨m0, c0, rfl, _⟩ := DataW.trod_int Tryd.underlying3 h0
  obtain ⟨m1, c1, rfl, _⟩ := DataW.trod_int Tryd.underlying3 h1
  have e1 : m0 = -1 ∧ m1 = 0 := by
    have := congrArg Prod.fst e
    simp [Rows.laid_berthshift_directory_nowhere] at this
    exact ⟨this.1.symm, this.2.symm⟩
  obtain ⟨rfl, rfl⟩ := e1
  have hc1 : Tryd.prog.cellsOf 3 = 1 := by kernel_rfl
  simp only [hc1] at c0 c1
  have k0 : cs[0]? = some (.int .i64 (-1)) := by
    have := congrArg (·[0]?) c0
    simpa [List.getElem?_take, List.getElem?_drop] using this
  have k1 : cs[1]? = some (.int .i64 0) := by
    have := congrArg (·[0]?) c1
    simpa [List.getElem?_take, List.getElem?_drop] using this
  have a0 := (World.var?_cell gNowhere hvar 0).trans k0
  have a1 := (World.var?_cell gNowhere hvar 1).trans k1
  exact ⟨a0, a1, lt_of_cell a0⟩

section
variable {H : Type} {enc : TypeId × Value → H} {P : Program}
/-- FROM THE WALK AT ONE WORLD TO THE ROW'S CONTRACT. -/
theorem law_contract_w {f : FuncId} {fn : Func} {s : ChangeSpec} {bt : TypeId} (hts : typesOk P fn.params.toList = true) (hvars : s.vars = []) (hres : fn.resultTypes = #[bt]) (hbt : P.underlying bt = some .bool)
    (hs : ∀ ds : List (DataW H), ds.length = fn.params.toList.length → s.fn H ds = { results := [.lit (.bool true)], args := ds })
    (W : World) (base : Nat) (args : Array Value) (ds gs : List (DataW H)) (before : List MemPlace)
    (walk : All2 (ArgOk P W) args.toList fn.params.toList → Calls P f args W fun e W' => e = .returned (.bool true) ∧ Below W.heap.size W W')
    (hval : ∀ (j : Nat) t v, fn.params[j]? = some t → args[j]? = some v → Value.okWide P W .any base t v)
    (hW : DataW.Whole enc P fn.params.toList s.vars false W args.toList ds gs before)
    (hz : (DataW.weightsEach P (fn.params.toList ++ s.plain.varTypes P) (ds ++ gs)).all (· ≤ reachBytes) = true) :
    Calls P f args W fun e W' => ∃ v, e = .returned v ∧ s.post enc P fn false true false false W args v W' := by
  simp only [typesOk, Bool.and_eq_true, List.all_eq_true, decide_eq_true_eq] at hts
  obtain ⟨hl, hts⟩ := hts
  have hW' := hW
  have hlt := hW.lt
  obtain ⟨p, q, hA, hV, rfl, _, _⟩ := hW
  rw [hvars] at hV
  have hg : gs = [] ∧ q = [] := by
    cases gs with
    | nil => exact ⟨rfl, hV⟩
    | cons g gs => exact hV.elim
  obtain ⟨rfl, rfl⟩ := hg
  have hvt : s.plain.varTypes P = [] := by unfold DataSpec.varTypes ChangeSpec.plain; simp [hvars]
  rw [hvt, List.append_nil, List.append_nil] at hz
  have hzz : ∀ b ∈ DataW.weightsEach P fn.params.toList ds, b ≤ reachBytes := fun b hb => by simpa using List.all_eq_true.1 hz b hb
  have hargs := args_ok hA (fun j t v h1 h2 => hval j t v (by simpa using h1) (by simpa using h2)) (fun t ht => (hts t ht).1.1) hzz (fun x hx => hlt x (List.mem_append.2 (.inl hx)))
  have hlen : ds.length = fn.params.toList.length := by
    have : ∀ {ts : List TypeId} {vs : List Value} {ds : List (DataW H)} {ps : List MemPlace}, DataW.TrodAll enc P W 0 (fun _ => true) true ts vs ds ps → ds.length = ts.length := by
      intro ts
      induction ts with
      | nil => intro vs ds ps h; obtain ⟨_, rfl, _⟩ := trodAll_nil h; rfl
      | cons t ts ih =>
        intro vs ds ps h
        obtain ⟨v, vs', d, ds', p, q, rfl, rfl, rfl, h0, h1⟩ := trodAll_cons h
        simp [ih h1]
    exact this hA
  refine (walk hargs).mono fun e W' ⟨he, hb⟩ => ?_
  have hsd := hs (ds ++ []) (by simpa using hlen)
  refine ⟨_, he, ds, [], p ++ [], [], p, [], hW', ?_, ?_, ?_, hb.frame _, fun h => by cases h⟩
  · rw [hsd, hres]
    exact trodAll_mk1 (shut_bool hbt true)
  · rw [hsd]
    simp only [List.append_nil]
    exact trodAll_below hl hb hA (fun t ht => ⟨(hts t ht).1.2, (hts t ht).2⟩) (fun x hx => hlt x (List.mem_append.2 (.inl hx)))
  · rw [hsd, hvars]
    simp [DataW.TrodVars]
end

/-- A WORLD FOR THE WITNESS: the settled one, the variable holding what its initialiser lays. -/
noncomputable def laidWorld (os : Os) : World :=
  { World.holding Tryd.prog os ⟨#[], #[], []⟩ with heap := (World.holding Tryd.prog os ⟨#[], #[], []⟩).heap.modify 0 fun
      | .cells _ t frozen => .cells #[.int .i64 (-1), .int .i64 0] t frozen
      | o => o }
theorem flat_dir : flat Tryd.prog 30 26 = some (List.replicate 8 (.at_ (.int .i64))) := by kernel_rfl
set_option maxRecDepth 100000 in
theorem arg_dir {W : World} {v : Value} (h : ArgOk Tryd.prog W v 26) : ∃ d : Dir, v = d.val := by
  obtain ⟨⟨base, hk⟩, l, hl, ha⟩ := h
  rw [flat_dir] at hl
  cases hl
  obtain ⟨cs, rfl, _⟩ := okWide_struct Tryd.underlying26 hk
  have ha' : All2 (Fits W) cs.toList [.at_ (.int .i64), .at_ (.int .i64), .at_ (.int .i64), .at_ (.int .i64), .at_ (.int .i64), .at_ (.int .i64), .at_ (.int .i64), .at_ (.int .i64)] := ha
  obtain ⟨a1, l1, e, ⟨m1, rfl, _⟩, h3⟩ := All2.cons_ ha'
  obtain ⟨a2, l2, rfl, ⟨m2, rfl, _⟩, h4⟩ := All2.cons_ h3
  obtain ⟨a3, l3, rfl, ⟨m3, rfl, _⟩, h5⟩ := All2.cons_ h4
  obtain ⟨a4, l4, rfl, ⟨m4, rfl, _⟩, h6⟩ := All2.cons_ h5
  obtain ⟨a5, l5, rfl, ⟨m5, rfl, _⟩, h7⟩ := All2.cons_ h6
  obtain ⟨a6, l6, rfl, ⟨m6, rfl, _⟩, h8⟩ := All2.cons_ h7
  obtain ⟨a7, l7, rfl, ⟨m7, rfl, _⟩, h9⟩ := All2.cons_ h8
  obtain ⟨a8, l8, rfl, ⟨m8, rfl, _⟩, h10⟩ := All2.cons_ h9
  have h11 := All2.nil_ h10
  subst h11
  refine ⟨⟨⟨m1, m2⟩, ⟨m3, m4⟩, ⟨m5, m6⟩, ⟨m7, m8⟩⟩, ?_⟩
  unfold Dir.val
  congr 1
  exact Array.toList_inj.1 e
theorem dir_cellsEq (a b : Dir) : cellsEq a.cells b.cells = decide (a = b) := by
  obtain ⟨⟨a1, a2⟩, ⟨a3, a4⟩, ⟨a5, a6⟩, ⟨a7, a8⟩⟩ := a
  obtain ⟨⟨b1, b2⟩, ⟨b3, b4⟩, ⟨b5, b6⟩, ⟨b7, b8⟩⟩ := b
  have := cellsEq_ints (xs := [a1, a2, a3, a4, a5, a6, a7, a8]) (ys := [b1, b2, b3, b4, b5, b6, b7, b8]) rfl
  simp only [List.map_cons, List.map_nil] at this
  unfold Dir.cells
  rw [this, Bool.eq_iff_iff]
  simp [and_assoc]
theorem eqOk_dir : eqOk Tryd.prog 30 26 = true := by kernel_rfl
theorem mkV_dir (xs : List Value) : mkV Tryd.prog 26 xs = .agg xs.toArray := by
  unfold mkV
  rw [Tryd.underlying26]
theorem run_eql_dir (a b : Dir) (w : World) : (binOp .eql 26 a.val b.val).run Tryd.prog w = .ok (.bool (decide (a = b))) w := by
  rw [← dir_cellsEq]
  exact run_eql_cells (P := Tryd.prog) w flat_dir eqOk_dir mkV_dir (kd_ints [a.p0.node, a.p0.epoch, a.p1.node, a.p1.epoch, a.p2.node, a.p2.epoch, a.p3.node, a.p3.epoch]) (kd_ints [b.p0.node, b.p0.epoch, b.p1.node, b.p1.epoch, b.p2.node, b.p2.epoch, b.p3.node, b.p3.epoch])
end Go.Proofs.YtefkifgonadiiabDoor
