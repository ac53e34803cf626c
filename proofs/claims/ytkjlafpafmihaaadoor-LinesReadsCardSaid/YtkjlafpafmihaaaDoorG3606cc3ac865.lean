/- Parts of proofs: lemmas on memory, on single functions and on the plain models; no condition of their own. -/
import Derived.Test.YtkjlafpafmihaaaDoorRows
import Derived.WalkKit
import Derived.ProofKit
import Derived.OpenShut
import Derived.SizedLaws
import Derived.WalkSpells
import Derived.WalkLawsBesides
import Derived.Handy
import Derived.Deep.QuietTactic
import Derived.BigQuiet
import Derived.Lib.Hide
import Derived.Maps.AppendAt
import Derived.Deep.AppendLies
import Derived.RegionTactic
import Derived.OwnWalk
import Derived.Laws.Tables
import Derived.Deep.MidRow
import Derived.StillTailTactics
import Derived.OrdersHeld
import Derived.Deep.RegionHeld3
import Derived.Laws.IdiomCopy
import Derived.ChangeKeysEq
import Derived.Laws.BitsAllLaws
import Derived.Test.YtkjlafpafmihaaaDoorG173045c9580a
import Derived.Test.YtkjlafpafmihaaaDoorG97f8767f7743
import Derived.Test.YtkjlafpafmihaaaDoorGa487125d06f9
import Derived.Test.YtkjlafpafmihaaaDoorGa6cfea583cdc
import Derived.Test.YtkjlafpafmihaaaDoorGab8ecdf11465
import Derived.Test.YtkjlafpafmihaaaDoorGd3cfdc1357eb
import Derived.Test.YtkjlafpafmihaaaDoorGea90f12dfe92
import Derived.Test.YtkjlafpafmihaaaDoorGedcf6e6df767
import Derived.Test.YtkjlafpafmihaaaDoorGfb0ccb768d7d
set_option linter.unusedVariables false
set_option linter.unusedSimpArgs false

namespace Go.Proofs.YtkjlafpafmihaaaDoor
open Go.ChangeShapes Go.WideShapes Go.ChangeAt Go.RowKit

theorem evo_s {l : Slots} {x : Operand} {v : Value} (h : ev l x = some v) : EvO l (some x) (some v) := h
theorem evo_n {l : Slots} : EvO l none none := trivial
section
variable {P : Program} {w : World} {t e : TypeId} {A : Option Addr} {n c s B : Nat} {xs : List Value} {kd ke kf : IntKind}
theorem r_eqg {op : BinOp} {xo yo : Operand} {a b : Array Value} {v : Value} (hg : P.eqGuardType P.depth t = false) (h : (binOp op t (.agg a) (.agg b)).run P w = .ok v w) : (do eqGuard op t xo yo (.agg a) (.agg b); binOp op t (.agg a) (.agg b) : Sem Value).run P w = .ok v w := by
  have h1 : (eqGuard op t xo yo (.agg a) (.agg b)).run P w = .ok () w := by
    have hp : ∀ w, (program : Sem Program).run P w = .ok P w := fun _ => rfl
    unfold eqGuard
    cases op <;> first | rfl | simp [hp, Sem.run_bind, Result.andThen, hg]
  rw [Sem.run_bind, h1]
  exact h
theorem r_convert {s t : TypeId} {k : IntKind} {x : Int} (hs : (P.underlying s).isSome = true) (ht : P.underlying t = some (.int k)) {z : Int} (hz : k.wrap x = z) : (convert s t (.int kd x)).run P w = .ok (.int k z) w := by
  obtain ⟨ds, hs⟩ := Option.isSome_iff_exists.1 hs
  subst hz
  simp [convert, Sem.run_bind, run_underlying hs, run_underlying ht, Result.andThen, Conv.intToInt]
end
end Go.Proofs.YtkjlafpafmihaaaDoor

namespace Go.Proofs.YtkjlafpafmihaaaDoor
open Go.ChangeShapes Go.WideShapes Go.RowKit
theorem cellEq_self : ∀ {v : Value} {s : Sh}, Kd v s → cellEq v v = true
  | _, .at_ (.int k), ⟨n, rfl⟩ => by simp [cellEq]
  | _, .at_ .bool, ⟨n, rfl⟩ => by simp [cellEq]
  | _, .at_ .str, ⟨n, rfl⟩ => by simp [cellEq]
  | _, .sl _ _, h => h.elim
theorem cellsEq_self : ∀ {xs : List Value} {l : List Sh}, All2 Kd xs l → cellsEq xs xs = true
  | [], [], _ => rfl
  | x :: xs, s :: l, h => by
    rw [cellsEq, cellEq_self h.1, cellsEq_self h.2]
    rfl
  | [], _ :: _, h => h.elim
  | _ :: _, [], h => h.elim
section
variable {P : Program} {w : World} {t : TypeId} {xo yo : Operand} {l : List Sh} {xs : List Value}
theorem run_neq_self (w : World) (hf : flat P 30 t = some l) (ho : eqOk P 30 t = true) (ha : ∀ xs, mkV P t xs = .agg xs.toArray) (hx : All2 Kd xs l) : (binOp .neq t (.agg xs.toArray) (.agg xs.toArray)).run P w = .ok (.bool false) w := by
  have h := run_neq_cells (P := P) w hf ho ha hx hx
  rw [cellsEq_self hx] at h
  exact h
end
end Go.Proofs.YtkjlafpafmihaaaDoor

namespace Go.Proofs.YtkjlafpafmihaaaDoor
open Go.ChangeShapes Go.WideShapes Go.RowKit

structure Ac where
  kd : Int
  nd : Int
  qu : Int
  at_ : Int
  kp : Int
  ek : Int
  ep : Int
  ei : Int
  eb : Int
  eh : Int
  en : Int
def Ac.ints (x : Ac) : List Int := [x.kd, x.nd, x.qu, x.at_, x.kp, x.ek, x.ep, x.ei, x.eb, x.eh, x.en]
def intVs (l : List Int) : List Value := l.map (Value.int .i64)
def Ac.cells (x : Ac) : List Value := [.int .i64 x.kd, .int .i64 x.nd, .int .i64 x.qu, .int .i64 x.at_, .int .i64 x.kp, .int .i64 x.ek, .int .i64 x.ep, .int .i64 x.ei, .int .i64 x.eb, .int .i64 x.eh, .int .i64 x.en]
theorem Ac.cells_eq (x : Ac) : x.cells = intVs x.ints := rfl
def Ac.get (x : Ac) (i : Nat) : Int := x.ints.getD i 0
theorem Ac.cell (x : Ac) {i : Nat} (h : i < 11) : x.cells[i]? = some (.int .i64 (x.get i)) := by
  rw [Ac.cells_eq, intVs, List.getElem?_map, List.getElem?_eq_getElem (by exact h)]
  have e : x.get i = x.ints[i]'h := by simp only [Ac.get, List.getD_eq_getElem?_getD, List.getElem?_eq_getElem (show i < x.ints.length from h), Option.getD_some]; rfl
  rw [e]
  rfl
/-- An act's numbers: where each lies, and its bound. -/
def formL (kd ek : Int) : Option (List (Nat × Int)) :=
  if kd = 1 then some [(2, 3), (1, 4)] else if kd = 10 then some [(2, 3), (1, 4)] else if kd = 3 then some [(1, 4)] else if kd = 9 then some [(1, 4)]
  else if kd = 8 then some [(1, 4), (4, 100000)] else if kd = 4 then some [(3, 1048576)] else if kd = 5 then some [(3, 1048576)] else if kd = 6 then some [(3, 1048576)]
  else if kd = 7 then some [] else if kd = 2 then (if ek = 1 then some [(1, 4), (2, 3), (6, 3), (7, 1073741824), (8, 1000000)] else if ek = 2 then some [(1, 4), (2, 3)]
  else if ek = 3 then some [(1, 4), (2, 3), (9, 1048576), (10, 1073741824)] else none) else none
/-- The kinds of acts, one by one. -/
theorem kinds (kd ek : Int) : kd = 1 ∨ kd = 10 ∨ kd = 3 ∨ kd = 9 ∨ kd = 8 ∨ kd = 4 ∨ kd = 5 ∨ kd = 6 ∨ kd = 7 ∨ (kd = 2 ∧ ek = 1) ∨ (kd = 2 ∧ ek = 2) ∨ (kd = 2 ∧ ek = 3) ∨ formL kd ek = none := by
  by_cases h1 : kd = 1
  · simp [h1]
  by_cases h10 : kd = 10
  · simp [h10]
  by_cases h3 : kd = 3
  · simp [h3]
  by_cases h9 : kd = 9
  · simp [h9]
  by_cases h8 : kd = 8
  · simp [h8]
  by_cases h4 : kd = 4
  · simp [h4]
  by_cases h5 : kd = 5
  · simp [h5]
  by_cases h6 : kd = 6
  · simp [h6]
  by_cases h7 : kd = 7
  · simp [h7]
  by_cases h2 : kd = 2
  · by_cases e1 : ek = 1
    · simp [h2, e1]
    by_cases e2 : ek = 2
    · simp [h2, e2]
    by_cases e3 : ek = 3
    · simp [h2, e3]
    simp [formL, h2, e1, e2, e3]
  simp [formL, h2, h1, h10, h3, h9, h8, h4, h5, h6, h7]
theorem form_lt {kd ek : Int} {l : List (Nat × Int)} (h : formL kd ek = some l) : ∀ p ∈ l, 1 ≤ p.1 ∧ p.1 < 11 ∧ p.1 ≠ 5 := by
  rcases kinds kd ek with rfl | rfl | rfl | rfl | rfl | rfl | rfl | rfl | rfl | ⟨rfl, rfl⟩ | ⟨rfl, rfl⟩ | ⟨rfl, rfl⟩ | hn
  all_goals first | (rw [hn] at h; cases h; done) | (simp [formL] at h; subst h; decide)
theorem form_len {kd ek : Int} {l : List (Nat × Int)} (h : formL kd ek = some l) : l.length ≤ 5 := by
  rcases kinds kd ek with rfl | rfl | rfl | rfl | rfl | rfl | rfl | rfl | rfl | ⟨rfl, rfl⟩ | ⟨rfl, rfl⟩ | ⟨rfl, rfl⟩ | hn
  all_goals first | (rw [hn] at h; cases h; done) | (simp [formL] at h; subst h; decide)
def inB (x : Ac) (p : Nat × Int) : Bool := decide (0 ≤ x.get p.1 ∧ x.get p.1 ≤ p.2)
def zer (c : List Int) (l : List (Nat × Int)) : List Int := l.foldl (fun c p => c.set p.1 0) c
def fin (x : Ac) (l : List (Nat × Int)) : List Int := (if x.kd = 2 then (zer x.ints l).set 5 0 else zer x.ints l).set 0 0
def zeros : List Int := [0, 0, 0, 0, 0, 0, 0, 0, 0, 0, 0]
def actFault (x : Ac) : Int := match formL x.kd x.ek with
  | none => 3
  | some l => if l.all (inB x) = true then (if fin x l = zeros then 0 else 3) else 2
/-- The act that an act's kind and numbers alone make. -/
def keep (x : Ac) : Ac :=
  if x.kd = 1 then ⟨x.kd, x.nd, x.qu, 0, 0, 0, 0, 0, 0, 0, 0⟩ else if x.kd = 10 then ⟨x.kd, x.nd, x.qu, 0, 0, 0, 0, 0, 0, 0, 0⟩ else if x.kd = 3 then ⟨x.kd, x.nd, 0, 0, 0, 0, 0, 0, 0, 0, 0⟩ else if x.kd = 9 then ⟨x.kd, x.nd, 0, 0, 0, 0, 0, 0, 0, 0, 0⟩
  else if x.kd = 8 then ⟨x.kd, x.nd, 0, 0, x.kp, 0, 0, 0, 0, 0, 0⟩ else if x.kd = 4 then ⟨x.kd, 0, 0, x.at_, 0, 0, 0, 0, 0, 0, 0⟩ else if x.kd = 5 then ⟨x.kd, 0, 0, x.at_, 0, 0, 0, 0, 0, 0, 0⟩ else if x.kd = 6 then ⟨x.kd, 0, 0, x.at_, 0, 0, 0, 0, 0, 0, 0⟩
  else if x.kd = 7 then ⟨x.kd, 0, 0, 0, 0, 0, 0, 0, 0, 0, 0⟩ else if x.ek = 1 then ⟨x.kd, x.nd, x.qu, 0, 0, x.ek, x.ep, x.ei, x.eb, 0, 0⟩ else if x.ek = 2 then ⟨x.kd, x.nd, x.qu, 0, 0, x.ek, 0, 0, 0, 0, 0⟩ else ⟨x.kd, x.nd, x.qu, 0, 0, x.ek, 0, 0, 0, x.eh, x.en⟩
theorem keep_fin {x : Ac} {l : List (Nat × Int)} (h : formL x.kd x.ek = some l) : x.ints = (keep x).ints ↔ fin x l = zeros := by
  obtain ⟨kd, nd, qu, at_, kp, ek, ep, ei, eb, eh, en⟩ := x
  rcases kinds kd ek with rfl | rfl | rfl | rfl | rfl | rfl | rfl | rfl | rfl | ⟨rfl, rfl⟩ | ⟨rfl, rfl⟩ | ⟨rfl, rfl⟩ | hn
  all_goals first | (dsimp only at h; rw [hn] at h; cases h) | (simp [formL] at h; subst h; simp [Ac.ints, keep, fin, zer, zeros]; try omega)
theorem ints_eq {x y : Ac} (h : x.ints = y.ints) : x = y := by
  obtain ⟨a1, a2, a3, a4, a5, a6, a7, a8, a9, a10, a11⟩ := x
  obtain ⟨b1, b2, b3, b4, b5, b6, b7, b8, b9, b10, b11⟩ := y
  simpa [Ac.ints] using h
section
variable {x : Ac} {l : List (Nat × Int)}
theorem af_none (h : formL x.kd x.ek = none) : actFault x = 3 := by unfold actFault; rw [h]
theorem af_range (h : formL x.kd x.ek = some l) (ha : ¬ l.all (inB x) = true) : actFault x = 2 := by unfold actFault; rw [h]; exact if_neg ha
theorem af_rest (h : formL x.kd x.ek = some l) (ha : l.all (inB x) = true) (hf : ¬ fin x l = zeros) : actFault x = 3 := by unfold actFault; rw [h]; simp only [if_pos ha, if_neg hf]
theorem af_ok (h : formL x.kd x.ek = some l) (ha : l.all (inB x) = true) (hf : fin x l = zeros) : actFault x = 0 := by unfold actFault; rw [h]; simp only [if_pos ha, if_pos hf]
theorem all_take {k : Nat} {p : Nat × Int} (h : l[k]? = some p) (ha : (l.take k).all (inB x) = true) (hp : 0 ≤ x.get p.1 ∧ x.get p.1 ≤ p.2) : (l.take (k + 1)).all (inB x) = true := by
  rw [List.take_add_one, h, List.all_append, ha]
  simp [inB, hp]
theorem all_bad {k : Nat} {p : Nat × Int} (h : l[k]? = some p) (hp : ¬ (0 ≤ x.get p.1 ∧ x.get p.1 ≤ p.2)) : ¬ l.all (inB x) = true := fun ha => by
  have := List.all_eq_true.1 ha p (List.mem_of_getElem? h)
  simp only [inB, decide_eq_true_eq] at this
  exact hp this
theorem zer_take {c : List Int} {k : Nat} {p : Nat × Int} (h : l[k]? = some p) : (zer c (l.take k)).set p.1 0 = zer c (l.take (k + 1)) := by
  unfold zer
  rw [List.take_add_one, h, List.foldl_append]
  rfl
theorem zer_len (c : List Int) : ∀ (l : List (Nat × Int)), (zer c l).length = c.length
  | [] => rfl
  | p :: l => by
    show (zer (c.set p.1 0) l).length = _
    rw [zer_len _ l, List.length_set]
theorem zer_zero : ∀ (l : List (Nat × Int)) (c : List Int), (∀ p ∈ l, 1 ≤ p.1) → (zer c l)[0]? = c[0]?
  | [], _, _ => rfl
  | p :: l, c, h => by
    show (zer (c.set p.1 0) l)[0]? = _
    rw [zer_zero l _ fun q hq => h q (List.mem_cons_of_mem _ hq), List.getElem?_set_ne (by have := h p (List.mem_cons_self ..); omega)]
end
/-! ### The act's row while its numbers are taken away -/
def acRow (c : List Int) : Array Value := (intVs c).toArray
theorem acRow_size {c : List Int} (h : c.length = 11) : (acRow c).size = 11 := by simp [acRow, intVs, h]
theorem acRow_get {c : List Int} {i : Nat} {v : Int} (h : c[i]? = some v) : (acRow c)[i]? = some (.int .i64 v) := by simp [acRow, intVs, h]
theorem acRow_set {c : List Int} {i : Nat} : (acRow c).setIfInBounds i (.int .i64 0) = acRow (c.set i 0) := by
  apply Array.toList_inj.1
  simp [acRow, intVs, Array.toList_setIfInBounds, List.map_set]
theorem flat_ac : flat Tryd.prog 30 41 = some (List.replicate 11 (.at_ (.int .i64))) := by kernel_rfl
theorem ac_eqOk : eqOk Tryd.prog 30 41 = true := by kernel_rfl
theorem ac_mkV (xs : List Value) : mkV Tryd.prog 41 xs = .agg xs.toArray := by
  unfold mkV
  rw [Tryd.underlying41]
theorem ac_neq {a b : List Int} (ha : a.length = 11) (hb : b.length = 11) (w : World) : (binOp .neq 41 (.agg (acRow a)) (.agg (acRow b))).run Tryd.prog w = .ok (.bool (!decide (a = b))) w := by
  have k1 := kd_ints a
  have k2 := kd_ints b
  rw [ha] at k1
  rw [hb] at k2
  have h := run_neq_cells (P := Tryd.prog) w flat_ac ac_eqOk ac_mkV k1 k2
  rw [cellsEq_ints (by rw [ha, hb])] at h
  exact h
end Go.Proofs.YtkjlafpafmihaaaDoor

namespace Go.Proofs.YtkjlafpafmihaaaDoor
open Go.ChangeShapes Go.WideShapes Go.RowKit

theorem inf3 : (Tryd.prog.info? 3).map (·.size) = some 1 := by kernel_rfl
theorem inf9 : (Tryd.prog.info? 9).map (·.size) = some 1 := by kernel_rfl
theorem inf22 : (Tryd.prog.info? 22).map (·.size) = some 1 := by kernel_rfl
theorem inf24 : (Tryd.prog.info? 24).map (·.size) = some 1 := by kernel_rfl
theorem inf37 : (Tryd.prog.info? 37).map (·.size) = some 2 := by kernel_rfl
theorem fa37_0 (b o : Nat) (w : World) : (Instr.fieldAt 37 (.pointer (some ⟨b, o, none⟩)) 0).run Tryd.prog w = .ok (.pointer (some ⟨b, o, none⟩)) w := by kernel_rfl
theorem fa37_1 (b o : Nat) (w : World) : (Instr.fieldAt 37 (.pointer (some ⟨b, o, none⟩)) 1).run Tryd.prog w = .ok (.pointer (some ⟨b, o + 1, none⟩)) w := by kernel_rfl
theorem fa39_0 (b o : Nat) (w : World) : (Instr.fieldAt 39 (.pointer (some ⟨b, o, none⟩)) 0).run Tryd.prog w = .ok (.pointer (some ⟨b, o, none⟩)) w := by kernel_rfl
theorem fa39_1 (b o : Nat) (w : World) : (Instr.fieldAt 39 (.pointer (some ⟨b, o, none⟩)) 1).run Tryd.prog w = .ok (.pointer (some ⟨b, o + 1, none⟩)) w := by kernel_rfl
theorem fa39_2 (b o : Nat) (w : World) : (Instr.fieldAt 39 (.pointer (some ⟨b, o, none⟩)) 2).run Tryd.prog w = .ok (.pointer (some ⟨b, o + 2, none⟩)) w := by kernel_rfl
theorem fa39_3 (b o : Nat) (w : World) : (Instr.fieldAt 39 (.pointer (some ⟨b, o, none⟩)) 3).run Tryd.prog w = .ok (.pointer (some ⟨b, o + 3, none⟩)) w := by kernel_rfl
theorem fa39_4 (b o : Nat) (w : World) : (Instr.fieldAt 39 (.pointer (some ⟨b, o, none⟩)) 4).run Tryd.prog w = .ok (.pointer (some ⟨b, o + 4, none⟩)) w := by kernel_rfl
theorem inf41 : (Tryd.prog.info? 41).map (·.size) = some 11 := by kernel_rfl
theorem infz41 : (Tryd.prog.info? 41).map (fun i => (i.zero, i.size, i.bytes)) = some (some (.agg #[.int .i64 0, .int .i64 0, .int .i64 0, .int .i64 0, .int .i64 0, .int .i64 0, .int .i64 0, .int .i64 0, .int .i64 0, .int .i64 0, .int .i64 0]), 11, 88) := by kernel_rfl
theorem fa41_0 (b o : Nat) (w : World) : (Instr.fieldAt 41 (.pointer (some ⟨b, o, none⟩)) 0).run Tryd.prog w = .ok (.pointer (some ⟨b, o, none⟩)) w := by kernel_rfl
theorem fa41_1 (b o : Nat) (w : World) : (Instr.fieldAt 41 (.pointer (some ⟨b, o, none⟩)) 1).run Tryd.prog w = .ok (.pointer (some ⟨b, o + 1, none⟩)) w := by kernel_rfl
theorem fa41_2 (b o : Nat) (w : World) : (Instr.fieldAt 41 (.pointer (some ⟨b, o, none⟩)) 2).run Tryd.prog w = .ok (.pointer (some ⟨b, o + 2, none⟩)) w := by kernel_rfl
theorem fa41_3 (b o : Nat) (w : World) : (Instr.fieldAt 41 (.pointer (some ⟨b, o, none⟩)) 3).run Tryd.prog w = .ok (.pointer (some ⟨b, o + 3, none⟩)) w := by kernel_rfl
theorem fa41_4 (b o : Nat) (w : World) : (Instr.fieldAt 41 (.pointer (some ⟨b, o, none⟩)) 4).run Tryd.prog w = .ok (.pointer (some ⟨b, o + 4, none⟩)) w := by kernel_rfl
theorem fa41_5 (b o : Nat) (w : World) : (Instr.fieldAt 41 (.pointer (some ⟨b, o, none⟩)) 5).run Tryd.prog w = .ok (.pointer (some ⟨b, o + 5, none⟩)) w := by kernel_rfl
theorem inf59 : (Tryd.prog.info? 59).map (·.size) = some 2 := by kernel_rfl
theorem fa59_0 (b o : Nat) (w : World) : (Instr.fieldAt 59 (.pointer (some ⟨b, o, none⟩)) 0).run Tryd.prog w = .ok (.pointer (some ⟨b, o, none⟩)) w := by kernel_rfl
theorem fa59_1 (b o : Nat) (w : World) : (Instr.fieldAt 59 (.pointer (some ⟨b, o, none⟩)) 1).run Tryd.prog w = .ok (.pointer (some ⟨b, o + 1, none⟩)) w := by kernel_rfl
theorem en8 (args : Array Value) (w : World) : (callFunc 8 args).run Tryd.prog w = .ok (.enter 8 args) w := enters_of_ Tryd.func8 (by kernel_rfl) rfl args w
theorem en9 (args : Array Value) (w : World) : (callFunc 9 args).run Tryd.prog w = .ok (.enter 9 args) w := enters_of_ Tryd.func9 (by kernel_rfl) rfl args w
theorem en10 (args : Array Value) (w : World) : (callFunc 10 args).run Tryd.prog w = .ok (.enter 10 args) w := enters_of_ Tryd.func10 (by kernel_rfl) rfl args w
theorem en11 (args : Array Value) (w : World) : (callFunc 11 args).run Tryd.prog w = .ok (.enter 11 args) w := enters_of_ Tryd.func11 (by kernel_rfl) rfl args w
theorem en13 (args : Array Value) (w : World) : (callFunc 13 args).run Tryd.prog w = .ok (.enter 13 args) w := enters_of_ Tryd.func13 (by kernel_rfl) rfl args w
theorem en15 (args : Array Value) (w : World) : (callFunc 15 args).run Tryd.prog w = .ok (.enter 15 args) w := enters_of_ Tryd.func15 (by kernel_rfl) rfl args w
theorem en17 (args : Array Value) (w : World) : (callFunc 17 args).run Tryd.prog w = .ok (.enter 17 args) w := enters_of_ Tryd.func17 (by kernel_rfl) rfl args w
theorem en18 (args : Array Value) (w : World) : (callFunc 18 args).run Tryd.prog w = .ok (.enter 18 args) w := enters_of_ Tryd.func18 (by kernel_rfl) rfl args w
theorem en19 (args : Array Value) (w : World) : (callFunc 19 args).run Tryd.prog w = .ok (.enter 19 args) w := enters_of_ Tryd.func19 (by kernel_rfl) rfl args w
theorem en20 (args : Array Value) (w : World) : (callFunc 20 args).run Tryd.prog w = .ok (.enter 20 args) w := enters_of_ Tryd.func20 (by kernel_rfl) rfl args w
theorem en22 (args : Array Value) (w : World) : (callFunc 22 args).run Tryd.prog w = .ok (.enter 22 args) w := enters_of_ Tryd.func22 (by kernel_rfl) rfl args w
theorem en23 (args : Array Value) (w : World) : (callFunc 23 args).run Tryd.prog w = .ok (.enter 23 args) w := enters_of_ Tryd.func23 (by kernel_rfl) rfl args w
theorem en24 (args : Array Value) (w : World) : (callFunc 24 args).run Tryd.prog w = .ok (.enter 24 args) w := enters_of_ Tryd.func24 (by kernel_rfl) rfl args w
theorem en25 (args : Array Value) (w : World) : (callFunc 25 args).run Tryd.prog w = .ok (.enter 25 args) w := enters_of_ Tryd.func25 (by kernel_rfl) rfl args w
theorem en26 (args : Array Value) (w : World) : (callFunc 26 args).run Tryd.prog w = .ok (.enter 26 args) w := enters_of_ Tryd.func26 (by kernel_rfl) rfl args w
theorem en28 (args : Array Value) (w : World) : (callFunc 28 args).run Tryd.prog w = .ok (.enter 28 args) w := enters_of_ Tryd.func28 (by kernel_rfl) rfl args w
theorem en29 (args : Array Value) (w : World) : (callFunc 29 args).run Tryd.prog w = .ok (.enter 29 args) w := enters_of_ Tryd.func29 (by kernel_rfl) rfl args w
theorem en30 (args : Array Value) (w : World) : (callFunc 30 args).run Tryd.prog w = .ok (.enter 30 args) w := enters_of_ Tryd.func30 (by kernel_rfl) rfl args w
theorem en31 (args : Array Value) (w : World) : (callFunc 31 args).run Tryd.prog w = .ok (.enter 31 args) w := enters_of_ Tryd.func31 (by kernel_rfl) rfl args w
theorem en32 (args : Array Value) (w : World) : (callFunc 32 args).run Tryd.prog w = .ok (.enter 32 args) w := enters_of_ Tryd.func32 (by kernel_rfl) rfl args w
theorem en33 (args : Array Value) (w : World) : (callFunc 33 args).run Tryd.prog w = .ok (.enter 33 args) w := enters_of_ Tryd.func33 (by kernel_rfl) rfl args w
theorem en34 (args : Array Value) (w : World) : (callFunc 34 args).run Tryd.prog w = .ok (.enter 34 args) w := enters_of_ Tryd.func34 (by kernel_rfl) rfl args w
theorem en35 (args : Array Value) (w : World) : (callFunc 35 args).run Tryd.prog w = .ok (.enter 35 args) w := enters_of_ Tryd.func35 (by kernel_rfl) rfl args w
theorem mixed : Tryd.prog.follows .mixedOrders = true := by kernel_rfl
end Go.Proofs.YtkjlafpafmihaaaDoor

namespace Go.Proofs.YtkjlafpafmihaaaDoor
open Go.ChangeShapes Go.WideShapes Go.RowKit
theorem In_t {n lo hi : Int} (h : lo ≤ n ∧ n ≤ hi) (w : World) : Calls Tryd.prog 25 #[.int .i64 n, .int .i64 lo, .int .i64 hi] w fun e w' => e = .returned (.bool true) ∧ w = w' := by
  have := In_calls n lo hi w
  rw [show inR n lo hi = true by simp [inR, h.1, h.2]] at this
  exact this
theorem In_f {n lo hi : Int} (h : ¬ (lo ≤ n ∧ n ≤ hi)) (w : World) : Calls Tryd.prog 25 #[.int .i64 n, .int .i64 lo, .int .i64 hi] w fun e w' => e = .returned (.bool false) ∧ w = w' := by
  have := In_calls n lo hi w
  rw [show inR n lo hi = false by simp [inR]; omega] at this
  exact this
def BoolB (w : World) (b : Bool) (e : Ending) (w' : World) : Prop := e = .returned (.bool b) ∧ Below w.heap.size w w'
end Go.Proofs.YtkjlafpafmihaaaDoor

namespace Go.Proofs.YtkjlafpafmihaaaDoor
open Go.ChangeShapes Go.WideShapes Go.RowKit
theorem St.blkRdo {B : Nat} {w0 w : World} {fs : List Fact} {b n s : Nat} {row : Array Value} {t : TypeId} {xs : List Value} (i : Nat) (S : St B w0 w fs) (hi : fs[i]? = some (.blk b row t)) (hx : row.toList = xs) (hl : xs.length = n * s) : St B w0 w (fs.set i (.rdo s (some ⟨b, 0, none⟩) n xs)) :=
  St.turn i S hi S.low (Nat.le_refl _) (fun _ _ _ => rfl) ⟨St.bld i S hi hx hl, fun a h => by cases h; exact ⟨St.ge i S hi, St.lt i S hi⟩⟩ (fun k hk => .inl hk)
def slotCells (g : Nat) (p : Nat × Int) : List Value := [.pointer (some ⟨g, p.1, none⟩), .int .i64 p.2]
def wordOf (kd ek : Int) : ByteArray :=
  if kd = 1 then ⟨#[109, 97, 107, 101]⟩ else if kd = 10 then ⟨#[109, 111, 118, 101]⟩ else if kd = 3 then ⟨#[115, 116, 101, 112]⟩ else if kd = 9 then ⟨#[115, 116, 97, 114, 116]⟩ else if kd = 8 then ⟨#[99, 114, 97, 115, 104]⟩
  else if kd = 4 then ⟨#[99, 97, 114, 114, 121]⟩ else if kd = 5 then ⟨#[108, 111, 115, 101]⟩ else if kd = 6 then ⟨#[100, 111, 117, 98, 108, 101]⟩ else if kd = 7 then ⟨#[97, 108, 108]⟩
  else if kd = 2 then (if ek = 1 then ⟨#[112, 117, 98, 108, 105, 115, 104]⟩ else if ek = 2 then ⟨#[114, 101, 99, 101, 105, 118, 101]⟩ else if ek = 3 then ⟨#[97, 99, 107]⟩ else ⟨#[]⟩) else ⟨#[]⟩
def FormPost (w : World) (g : Nat) (u : ByteArray) (r : Option (List (Nat × Int))) (e : Ending) (w' : World) : Prop := match r with
  | none => e = .returned (.tuple #[.string u, .slice none 0 0, .bool false]) ∧ Below w.heap.size w w'
  | some l => ∃ A, e = .returned (.tuple #[.string u, .slice A l.length l.length, .bool true]) ∧ St w.heap.size w w' [.rdo 2 A l.length (l.flatMap (slotCells g))]
section
variable {P : Program} {w : World} {t : TypeId} {xo yo : Operand}
theorem r_seql {a b : ByteArray} {q : Bool} (h : (a.toList == b.toList) = q) : (do eqGuard .eql t xo yo (.string a) (.string b); binOp .eql t (.string a) (.string b) : Sem Value).run P w = .ok (.bool q) w := by
  subst h
  simp [binOp, eqGuard_at_string, go_sem, Op.stringOp]
end
theorem wordne (kd ek : Int) (l : List (Nat × Int)) (h : formL kd ek = some l) : ((wordOf kd ek).toList == (⟨#[]⟩ : ByteArray).toList) = false := by
  rcases kinds kd ek with rfl | rfl | rfl | rfl | rfl | rfl | rfl | rfl | rfl | ⟨rfl, rfl⟩ | ⟨rfl, rfl⟩ | ⟨rfl, rfl⟩ | hn
  all_goals first | (rw [hn] at h; cases h; done) | kernel_rfl
theorem wordno (kd ek : Int) (h : formL kd ek = none) : wordOf kd ek = ⟨#[]⟩ := by
  have h1 : kd ≠ 1 := fun e => by subst e; cases h
  have h10 : kd ≠ 10 := fun e => by subst e; cases h
  have h3 : kd ≠ 3 := fun e => by subst e; cases h
  have h9 : kd ≠ 9 := fun e => by subst e; cases h
  have h8 : kd ≠ 8 := fun e => by subst e; cases h
  have h4 : kd ≠ 4 := fun e => by subst e; cases h
  have h5 : kd ≠ 5 := fun e => by subst e; cases h
  have h6 : kd ≠ 6 := fun e => by subst e; cases h
  have h7 : kd ≠ 7 := fun e => by subst e; cases h
  unfold wordOf
  rw [if_neg h1, if_neg h10, if_neg h3, if_neg h9, if_neg h8, if_neg h4, if_neg h5, if_neg h6, if_neg h7]
  by_cases h2 : kd = 2
  · subst h2
    have e1 : ek ≠ 1 := fun e => by subst e; cases h
    have e2 : ek ≠ 2 := fun e => by subst e; cases h
    have e3 : ek ≠ 3 := fun e => by subst e; cases h
    rw [if_pos rfl, if_neg e1, if_neg e2, if_neg e3]
  · rw [if_neg h2]
def StrPost (w : World) (u : ByteArray) (e : Ending) (w' : World) : Prop := e = .returned (.string u) ∧ Below w.heap.size w w'
def valC (x : Ac) (p : Nat × Int) : List Value := [.int .i64 (x.get p.1)]
def mostC (p : Nat × Int) : List Value := [.int .i64 p.2]
theorem Ac.cellA (x : Ac) {i : Nat} (h : i < 11) : x.cells.toArray[i]? = some (.int .i64 (x.get i)) := by rw [List.getElem?_toArray]; exact x.cell h
def NumPost (w : World) (x : Ac) (l : List (Nat × Int)) (e : Ending) (w' : World) : Prop := ∃ A A', e = .returned (.tuple #[.slice A l.length l.length, .slice A' l.length l.length]) ∧
  St w.heap.size w w' [.rdo 1 A l.length (l.flatMap (valC x)), .rdo 1 A' l.length (l.flatMap mostC)]
def AcPost (w : World) (y : Ac) (e : Ending) (w' : World) : Prop := e = .returned (.agg y.cells.toArray) ∧ Below w.heap.size w w'
end Go.Proofs.YtkjlafpafmihaaaDoor

namespace Go.Proofs.YtkjlafpafmihaaaDoor
open Go.ChangeShapes Go.WideShapes Go.ChangeAt Go.RowKit
section
variable {P : Program} {N : Nat} {l : Slots} {o : Oper} {w w' w0 : World} {B : Nat} {fs : List Fact}
theorem y_makeFunc {f : Fn} {xs ys : List Operand} {vs us : List Value} (ho : o.op = .makeFunc f xs.toArray ys.toArray) (hx : Evs l xs vs) (hy : Evs l ys us) : Yld P N l o w (.func f vs.toArray us.toArray) := fun a F => by
  have h1 := F.evs hx
  have h2 := F.evs hy
  unfold execOp
  simp only [ho, List.map_toArray, h1, h2]
  rfl
theorem St.reown {e e' : TypeId} {s s' : Nat} {g n c n' c' : Nat} {xs xs' : List Value} (i : Nat) (S : St B w0 w fs) (hi : fs[i]? = some (.own e s (.slice (some ⟨g, 0, none⟩) n c) n xs)) (hu : Upd w g w') (ho : w'.ownsRow B e' s' (.slice (some ⟨g, 0, none⟩) n' c') n' xs') :
    St B w0 w' (fs.set i (.own e' s' (.slice (some ⟨g, 0, none⟩) n' c') n' xs')) :=
  S.turn i hi (hu.next S.low (Fact.foot_lt (S.all i _ hi) rfl).1) (Nat.le_of_eq hu.size.symm) (fun k _ hk => hu.block k (fun e => hk (by rw [e]; rfl))) ho (fun k hk => .inl hk)
end
theorem rdo_nil {B : Nat} {w0 w : World} {fs : List Fact} {s : Nat} (S : St B w0 w fs) : St B w0 w (.rdo s none 0 [] :: fs) := S.cons ⟨Rd.none_, fun a h => by cases h⟩ fun k hk => by cases hk
end Go.Proofs.YtkjlafpafmihaaaDoor

namespace Go.Proofs.YtkjlafpafmihaaaDoor
open Go.ChangeShapes Go.WideShapes Go.RowKit
/-- Some of the slots, by their numbers. -/
inductive Pick (l : Slots) : List Nat → Slots → Prop
  | z : Pick l [] []
  | s {k : Nat} {ks : List Nat} {v : Value} {l' : Slots} : lk l k = some v → Pick l ks l' → Pick l (k :: ks) ((k, v) :: l')
theorem Pick.sub {l : Slots} {ks : List Nat} {l' : Slots} (h : Pick l ks l') : SubL l l' := by
  induction h with
  | z => exact trivial
  | s h _ ih => exact ⟨h, ih⟩
/-- A fact of a list in place of another. -/
inductive SetAt (f : Fact) : List Fact → Nat → List Fact → Prop
  | z {g : Fact} {fs : List Fact} : SetAt f (g :: fs) 0 (f :: fs)
  | s {g : Fact} {fs fs' : List Fact} {i : Nat} : SetAt f fs i fs' → SetAt f (g :: fs) (i + 1) (g :: fs')
theorem SetAt.eq {f : Fact} {fs fs' : List Fact} {i : Nat} (h : SetAt f fs i fs') : fs.set i f = fs' := by
  induction h with
  | z => rfl
  | s _ ih => rw [List.set_cons_succ, ih]
def delsF : List Nat → List Fact → List Fact
  | [], fs => fs
  | i :: is, fs => delsF is (fs.eraseIdx i)
theorem St.dels {B : Nat} {w0 w : World} : ∀ {fs : List Fact} (_ : St B w0 w fs) (is : List Nat), St B w0 w (delsF is fs)
  | _, S, [] => S
  | _, S, i :: is => (St.del i S).dels is
theorem elm {α : Type} {enc : α → List Value} {w : World} {B sz n : Nat} {A : Option Addr} {l : List α} (k : Nat) (h : Rd w B sz A n (l.flatMap enc)) (hk : k < n) (hs : ∀ x, (enc x).length = sz := by exact fun _ => rfl) (hz : Nat.blt 0 sz = true := by exact rfl) : ∃ x, l[k]? = some x := by
  have h1 := h.1
  rw [fm_len hs] at h1
  have h2 : l.length = n := Nat.eq_of_mul_eq_mul_right (Nat.le_of_ble_eq_true hz) h1
  exact ⟨_, List.getElem?_eq_getElem (by omega)⟩
section
variable {P : Program} {N : Nat} {l l' : Slots} {w w' w0 : World} {ops : Array Oper} {o : Oper} {rest : List Oper} {Q : Exit → Act → World → Prop} {d B : Nat} {v p : Value} {fs fs' : List Fact} {ex : Exit}
theorem qk (ks : List Nat) (h : wQ N Q .normal l' w) (hp : Pick l ks l' := by repeat' first | exact Pick.z | apply Pick.s rfl) : wL P N ops Q [] l w := wL_nil (wQ_sub hp.sub h)
theorem pk (ks : List Nat) (h : wQ N Q ex l' w) (hp : Pick l ks l' := by repeat' first | exact Pick.z | apply Pick.s rfl) : wQ N Q ex l w := wQ_sub hp.sub h
theorem cw {c : Code} (ks : List Nat) (h : wC P N c Q l' w) (hp : Pick l ks l' := by repeat' first | exact Pick.z | apply Pick.s rfl) : wC P N c Q l w := wC_sub hp.sub h
/-! ### What an operation yields -/
section
variable {x : Operand}
theorem ym (ho : o.op = .move x := by exact rfl) (hx : ev l x = some v := by exact rfl) : Yld P N l o w v := y_move ho hx
theorem ya (ho : o.op = .assign x := by exact rfl) (hx : ev l x = some v := by exact rfl) : Yld P N l o w v := y_assign ho hx
theorem yx {k : Nat} {vs : Array Value} (ho : o.op = .extract x k := by exact rfl) (hx : ev l x = some (.tuple vs) := by exact rfl) (hk : vs[k]? = some v := by exact rfl) : Yld P N l o w v := y_extract ho hx hk
theorem ypT {c y : Operand} (ho : o.op = .pick c x y := by exact rfl) (hc : ev l c = some (.bool true) := by exact rfl) (hx : ev l x = some v := by exact rfl) : Yld P N l o w v := y_pick_t ho hc hx
theorem ypF {c y : Operand} (ho : o.op = .pick c x y := by exact rfl) (hc : ev l c = some (.bool false) := by exact rfl) (hx : ev l y = some v := by exact rfl) : Yld P N l o w v := y_pick_f ho hc hx
theorem yno {t : TypeId} {b c : Bool} (ho : o.op = .unOp .not t x := by exact rfl) (hx : ev l x = some (.bool b) := by exact rfl) (hb : (!b) = c := by exact rfl) : Yld P N l o w (.bool c) := hb ▸ y_unop ho hx r_not
theorem ylr {b m : Nat} {row : Array Value} {tt t : TypeId} {ds : TypeDesc} (i : Nat) (S : St B w0 w fs) (hu : P.underlying t = some ds) (hz : (P.info? t).map (·.size) = some m) (ho : o.op = .load t x := by exact rfl) (hx : ev l x = some (.pointer (some ⟨b, 0, none⟩)) := by exact rfl)
    (hi : fs[i]? = some (.blk b row tt) := by exact rfl) (hd : ds.isRow = true := by exact rfl) (hm : row.size = m := by exact rfl) : Yld P N l o w (.agg row) := y_load ho hx (r_load_row i S hi hu hd hz hm)
theorem ylc {b k : Nat} {row : Array Value} {tt t : TypeId} {ds : TypeDesc} (i : Nat) (S : St B w0 w fs) (hu : P.underlying t = some ds) (ho : o.op = .load t x := by exact rfl) (hx : ev l x = some (.pointer (some ⟨b, k, none⟩)) := by exact rfl) (hd : ds.isRow = false := by exact rfl)
    (hi : fs[i]? = some (.blk b row tt) := by exact rfl) (hk : row[k]? = some v := by exact rfl) : Yld P N l o w v := y_load ho hx (r_load hu hd (St.cl i S hi hk))
theorem yfa {s : TypeId} {f b o0 : Nat} {g : Nat → Nat} (o' : Nat) (hf : ∀ (b o : Nat) (w : World), (Instr.fieldAt s (.pointer (some ⟨b, o, none⟩)) f).run P w = .ok (.pointer (some ⟨b, g o, none⟩)) w) (ho : o.op = .fieldAddr s x f := by exact rfl)
    (hx : ev l x = some (.pointer (some ⟨b, o0, none⟩)) := by exact rfl) (he : g o0 = o' := by exact rfl) : Yld P N l o w (.pointer (some ⟨b, o', none⟩)) := he ▸ y_fieldAddr ho hx (hf b o0 w)
theorem yz {t : TypeId} (ho : o.op = .build t ([] : List (Nat × Operand)).toArray := by exact rfl) (hr : (Instr.build t ([] : List (Nat × Value)).toArray).run P w = .ok v w := by kernel_rfl) : Yld P N l o w v := y_build (vs := []) ho trivial hr
end
section
variable {t tt : TypeId} {kd : IntKind} {xo yo : Operand} {x y : Int}
theorem ylssT (h : x < y) (ho : o.op = .binOp .lss t xo yo tt := by exact rfl) (hx : ev l xo = some (.int kd x) := by exact rfl) (hy : ev l yo = some (.int kd y) := by exact rfl) : Yld P N l o w (.bool true) := y_binop ho hx hy (r_lss_t h)
theorem ylssF (h : ¬ x < y) (ho : o.op = .binOp .lss t xo yo tt := by exact rfl) (hx : ev l xo = some (.int kd x) := by exact rfl) (hy : ev l yo = some (.int kd y) := by exact rfl) : Yld P N l o w (.bool false) := y_binop ho hx hy (r_lss_f h)
theorem dlssF (ho : o.op = .binOp .lss t xo yo tt := by exact rfl) (hx : ev l xo = some (.int kd x) := by exact rfl) (hy : ev l yo = some (.int kd y) := by exact rfl) (h : ¬ x < y := by decide) : Yld P N l o w (.bool false) := y_binop ho hx hy (r_lss_f h)
theorem yleqT (h : x ≤ y) (ho : o.op = .binOp .leq t xo yo tt := by exact rfl) (hx : ev l xo = some (.int kd x) := by exact rfl) (hy : ev l yo = some (.int kd y) := by exact rfl) : Yld P N l o w (.bool true) := y_binop ho hx hy (r_leq_t h)
theorem yleqF (h : ¬ x ≤ y) (ho : o.op = .binOp .leq t xo yo tt := by exact rfl) (hx : ev l xo = some (.int kd x) := by exact rfl) (hy : ev l yo = some (.int kd y) := by exact rfl) : Yld P N l o w (.bool false) := y_binop ho hx hy (r_leq_f h)
theorem ygtrT (h : y < x) (ho : o.op = .binOp .gtr t xo yo tt := by exact rfl) (hx : ev l xo = some (.int kd x) := by exact rfl) (hy : ev l yo = some (.int kd y) := by exact rfl) : Yld P N l o w (.bool true) := y_binop ho hx hy (r_gtr_t h)
theorem ygtrF (h : ¬ y < x) (ho : o.op = .binOp .gtr t xo yo tt := by exact rfl) (hx : ev l xo = some (.int kd x) := by exact rfl) (hy : ev l yo = some (.int kd y) := by exact rfl) : Yld P N l o w (.bool false) := y_binop ho hx hy (r_gtr_f h)
theorem yeqlT (h : x = y) (ho : o.op = .binOp .eql t xo yo tt := by exact rfl) (hx : ev l xo = some (.int kd x) := by exact rfl) (hy : ev l yo = some (.int kd y) := by exact rfl) : Yld P N l o w (.bool true) := y_binop ho hx hy (r_eql_t h)
theorem deqlT (ho : o.op = .binOp .eql t xo yo tt := by exact rfl) (hx : ev l xo = some (.int kd x) := by exact rfl) (hy : ev l yo = some (.int kd y) := by exact rfl) (h : x = y := by decide) : Yld P N l o w (.bool true) := y_binop ho hx hy (r_eql_t h)
theorem yeqlF (h : ¬ x = y) (ho : o.op = .binOp .eql t xo yo tt := by exact rfl) (hx : ev l xo = some (.int kd x) := by exact rfl) (hy : ev l yo = some (.int kd y) := by exact rfl) : Yld P N l o w (.bool false) := y_binop ho hx hy (r_eql_f h)
theorem deqlF (ho : o.op = .binOp .eql t xo yo tt := by exact rfl) (hx : ev l xo = some (.int kd x) := by exact rfl) (hy : ev l yo = some (.int kd y) := by exact rfl) (h : ¬ x = y := by decide) : Yld P N l o w (.bool false) := y_binop ho hx hy (r_eql_f h)
theorem yneqT (h : ¬ x = y) (ho : o.op = .binOp .neq t xo yo tt := by exact rfl) (hx : ev l xo = some (.int kd x) := by exact rfl) (hy : ev l yo = some (.int kd y) := by exact rfl) : Yld P N l o w (.bool true) := y_binop ho hx hy (r_neq_t h)
theorem dneqT (ho : o.op = .binOp .neq t xo yo tt := by exact rfl) (hx : ev l xo = some (.int kd x) := by exact rfl) (hy : ev l yo = some (.int kd y) := by exact rfl) (h : ¬ x = y := by decide) : Yld P N l o w (.bool true) := y_binop ho hx hy (r_neq_t h)
theorem yneqF (h : x = y) (ho : o.op = .binOp .neq t xo yo tt := by exact rfl) (hx : ev l xo = some (.int kd x) := by exact rfl) (hy : ev l yo = some (.int kd y) := by exact rfl) : Yld P N l o w (.bool false) := y_binop ho hx hy (r_neq_f h)
theorem dneqF (ho : o.op = .binOp .neq t xo yo tt := by exact rfl) (hx : ev l xo = some (.int kd x) := by exact rfl) (hy : ev l yo = some (.int kd y) := by exact rfl) (h : x = y := by decide) : Yld P N l o w (.bool false) := y_binop ho hx hy (r_neq_f h)
end
/-! ### Steps -/
section
variable {C : World → Prop} {Qa : Act → Prop} {j : Nat} {t : Nat} {u : Value} {x : Operand}
theorem vv (hy : Yld P N l o w v) (h : wL P N ops Q rest ((d, v) :: l) w) (hw : o.guard = none := by exact rfl) (hd : o.dst = some d := by exact rfl) (hN : Nat.blt d N = true := by exact rfl) : wL P N ops Q (o :: rest) l w := wL_val (wn hw) hd hN hy h
theorem vm (h : wL P N ops Q rest ((d, v) :: l) w) (hw : o.guard = none := by exact rfl) (hd : o.dst = some d := by exact rfl) (hN : Nat.blt d N = true := by exact rfl) (ho : o.op = .move x := by exact rfl) (hx : ev l x = some v := by exact rfl) : wL P N ops Q (o :: rest) l w := wL_val (wn hw) hd hN (y_move ho hx) h
theorem va (h : wL P N ops Q rest ((d, v) :: l) w) (hw : o.guard = none := by exact rfl) (hd : o.dst = some d := by exact rfl) (hN : Nat.blt d N = true := by exact rfl) (ho : o.op = .assign x := by exact rfl) (hx : ev l x = some v := by exact rfl) : wL P N ops Q (o :: rest) l w := wL_val (wn hw) hd hN (y_assign ho hx) h
theorem vg {b : Bool} (hy : Yld P N l o w v) (h : wL P N ops Q rest ((d, v) :: l) w) (hg : o.guard = some (j, b) := by exact rfl) (hj : (ops[j]?).bind (·.dst) = some t := by exact rfl) (hv : lk l t = some u := by exact rfl) (hr : (yl u == some b) = true := by exact rfl)
    (hd : o.dst = some d := by exact rfl) (hN : Nat.blt d N = true := by exact rfl) : wL P N ops Q (o :: rest) l w := wL_val (wg hg hj hv hr) hd hN hy h
theorem vs {b : Bool} (h : wL P N ops Q rest ((d, undef) :: l) w) (hg : o.guard = some (j, b) := by exact rfl) (hj : (ops[j]?).bind (·.dst) = some t := by exact rfl) (hv : lk l t = some u := by exact rfl) (hr : (yl u == some b) = false := by exact rfl) (hd : o.dst = some d := by exact rfl) (hN : Nat.blt d N = true := by exact rfl) : wL P N ops Q (o :: rest) l w := wL_skip (wg hg hj hv hr) hd hN h
theorem uv (hy : ∀ w, C w → Yld P N l o w v) (h : wU P N ops C Qa rest ((d, v) :: l)) (hw : o.guard = none := by exact rfl) (hd : o.dst = some d := by exact rfl) (hN : Nat.blt d N = true := by exact rfl) : wU P N ops C Qa (o :: rest) l := wU_val (wn hw) hd hN hy h
theorem ug {b : Bool} (hy : ∀ w, C w → Yld P N l o w v) (h : wU P N ops C Qa rest ((d, v) :: l)) (hg : o.guard = some (j, b) := by exact rfl) (hj : (ops[j]?).bind (·.dst) = some t := by exact rfl) (hv : lk l t = some u := by exact rfl) (hr : (yl u == some b) = true := by exact rfl)
    (hd : o.dst = some d := by exact rfl) (hN : Nat.blt d N = true := by exact rfl) : wU P N ops C Qa (o :: rest) l := wU_val (wg hg hj hv hr) hd hN hy h
theorem usk {b : Bool} (h : wU P N ops C Qa rest ((d, undef) :: l)) (hg : o.guard = some (j, b) := by exact rfl) (hj : (ops[j]?).bind (·.dst) = some t := by exact rfl) (hv : lk l t = some u := by exact rfl) (hr : (yl u == some b) = false := by exact rfl)
    (hd : o.dst = some d := by exact rfl) (hN : Nat.blt d N = true := by exact rfl) : wU P N ops C Qa (o :: rest) l := wU_skip (wg hg hj hv hr) hd hN h
theorem ak {n : Nat} {listed listed' : Array Bool} (i : Nat) (hi : ops[i]? = some o) (hS : C w) (hy : ∀ w, C w → Yld P N l o w v) (h : wA P N ops Q C n listed' ((d, v) :: l) w) (hs : Region.noSelect ops = true := by kernel_rfl) (hf : Region.free .any ops listed i = true := by kernel_rfl)
    (hr : (Region.ready .any ops listed).contains i = true := by kernel_rfl) (hl : listed.setIfInBounds i true = listed' := by exact rfl) (hw : o.guard = none := by exact rfl) (hd : o.dst = some d := by exact rfl) (hN : Nat.blt d N = true := by exact rfl) : wA P N ops Q C (n + 1) listed l w := wA_take hi hs hf hr hS hl (wn hw) hd hN hy h
theorem gk {n m : Nat} {listed listed' : Array Bool} (i : Nat) (hi : ops[i]? = some o) (hS : C w) (hy : ∀ w, C w → Yld P N l o w v) (h : wG P N ops Q C n m listed' ((d, v) :: l) w) (hs : Region.noSelect ops = true := by kernel_rfl) (hf : Region.free .any ops listed i = true := by kernel_rfl)
    (hr : (Region.ready .any ops listed).contains i = true := by kernel_rfl) (hnl : listed.getD n true = false := by exact rfl) (hni : waitsB ops n i = true := by kernel_rfl) (hne : Nat.beq n i = false := by exact rfl) (hl : listed.setIfInBounds i true = listed' := by exact rfl) (hw : o.guard = none := by exact rfl)
    (hd : o.dst = some d := by exact rfl) (hN : Nat.blt d N = true := by exact rfl) : wG P N ops Q C n (m + 1) listed l w := wG_take hi hs hf hr hnl hni hne hS hl (wn hw) hd hN hy h
theorem aq1 {n : Nat} {listed : Array Bool} (r : Nat) (h : wK P N ops Q C n r listed l w) (hr : Region.ready .any ops listed = [r] := by kernel_rfl) : wA P N ops Q C (n + 1) listed l w := wA_one hr h
end
/-! ### Memory and calls -/
section
variable {b m f : Nat} {row row' cs : Array Value} {t ty : TypeId} {x y : Operand} {ds : TypeDesc} {z u : Value}
theorem sa (i : Nat) (S : St B w0 w fs) (hz : (P.info? ty).map (·.size) = some m) (h : ∀ w', St B w0 w' fs' → wL P N ops Q rest l w') (hw : o.guard = none := by exact rfl) (hd : o.dst = none := by exact rfl) (ho : o.op = .store ty x y := by exact rfl)
    (hx : ev l x = some (.pointer (some ⟨b, 0, none⟩)) := by exact rfl) (hy : ev l y = some v := by exact rfl) (hi : fs[i]? = some (.blk b row t) := by exact rfl) (hv : v.cells = cs := by exact rfl) (hm : cs.size = m := by exact rfl)
    (h1 : cs.toList.all (·.oneCell') = true := by exact rfl) (hr : Nat.ble m row.size = true := by exact rfl) (hs : row.size = cs.size := by exact rfl) (hf : SetAt (.blk b cs t) fs i fs' := by repeat' first | exact SetAt.z | apply SetAt.s) : wL P N ops Q (o :: rest) l w :=
  wL_st i S (wn hw) hd ho hx hy hi hv hz hm (oneAll h1) (by rw [Nat.zero_add]; exact Nat.le_of_ble_eq_true hr) (setAll_all hs) hf.eq h
theorem sr {off : Nat} {row' : Array Value} (i : Nat) (S : St B w0 w fs) (hz : (P.info? ty).map (·.size) = some m) (h : ∀ w', St B w0 w' fs' → wL P N ops Q rest l w') (hw : o.guard = none := by exact rfl) (hd : o.dst = none := by exact rfl) (ho : o.op = .store ty x y := by exact rfl)
    (hx : ev l x = some (.pointer (some ⟨b, off, none⟩)) := by exact rfl) (hy : ev l y = some v := by exact rfl) (hi : fs[i]? = some (.blk b row t) := by exact rfl) (hv : v.cells = cs := by exact rfl) (hm : cs.size = m := by exact rfl)
    (h1 : cs.toList.all (·.oneCell') = true := by exact rfl) (hr : Nat.ble (off + m) row.size = true := by exact rfl) (hs : setAll row off cs.toList = row' := by exact rfl) (hf : SetAt (.blk b row' t) fs i fs' := by repeat' first | exact SetAt.z | apply SetAt.s) : wL P N ops Q (o :: rest) l w :=
  wL_st i S (wn hw) hd ho hx hy hi hv hz hm (oneAll h1) (Nat.le_of_ble_eq_true hr) hs hf.eq h
theorem sn {C : World → Prop} {n : Nat} {listed listed' : Array Bool} (j : Nat) (hi' : ops[j]? = some o) (i : Nat) (S : St B w0 w fs) (hz : (P.info? ty).map (·.size) = some m) (h : ∀ w', St B w0 w' fs' → C w' ∧ wA P N ops Q C n listed' l w') (hl : listed.setIfInBounds j true = listed' := by exact rfl)
    (hw : o.guard = none := by exact rfl) (hd : o.dst = none := by exact rfl) (ho : o.op = .store ty x y := by exact rfl) (hx : ev l x = some (.pointer (some ⟨b, 0, none⟩)) := by exact rfl) (hy : ev l y = some v := by exact rfl) (hi : fs[i]? = some (.blk b row t) := by exact rfl) (hv : v.cells = cs := by exact rfl)
    (hm : cs.size = m := by exact rfl) (h1 : cs.toList.all (·.oneCell') = true := by exact rfl) (hr : Nat.ble m row.size = true := by exact rfl) (hs : row.size = cs.size := by exact rfl) (hf : SetAt (.blk b cs t) fs i fs' := by repeat' first | exact SetAt.z | apply SetAt.s) : wK P N ops Q C n j listed l w :=
  wN_st hi' hl i S (wn hw) hd ho hx hy hi hv hz hm (oneAll h1) (by rw [Nat.zero_add]; exact Nat.le_of_ble_eq_true hr) (setAll_all hs) hf.eq h
theorem nna {C : World → Prop} {n : Nat} {listed listed' : Array Bool} {row : Array Value} (j : Nat) (hi' : ops[j]? = some o) (S : St B w0 w fs) (hz : ∀ w, (zeroValue t).run P w = .ok z w) (h : ∀ b w', St B w0 w' (.blk b row t :: fs) → C w' ∧ wA P N ops Q C n listed' ((d, .pointer (some ⟨b, 0, none⟩)) :: l) w')
    (hl : listed.setIfInBounds j true = listed' := by exact rfl) (hw : o.guard = none := by exact rfl) (hd : o.dst = some d := by exact rfl) (hN : Nat.blt d N = true := by exact rfl) (ho : o.op = .alloc t := by exact rfl) (hc : z.cells = row := by exact rfl) : wK P N ops Q C n j listed l w :=
  wN_new (V := fun b => .pointer (some ⟨b, 0, none⟩)) hi' hl S (wn hw) hd hN (d_alloc ho (hz w) hc) h
theorem calg {vs : List Value} {R : Ending → World → Prop} {xs : List Operand} {ts : Array TypeId} {j tg : Nat} {bb : Bool} (heg : ∀ args w, (callFunc f args).run P w = .ok (.enter f args) w) (hc : Calls P f vs.toArray w R) (h : ∀ e w', R e w' → ∃ v, e = .returned v ∧ wL P N ops Q rest ((d, v) :: l) w')
    (hg : o.guard = some (j, bb) := by exact rfl) (hj : (ops[j]?).bind (·.dst) = some tg := by exact rfl) (hv : lk l tg = some u := by exact rfl) (hr : (yl u == some bb) = true := by exact rfl) (hd : o.dst = some d := by exact rfl) (hN : Nat.blt d N = true := by exact rfl)
    (ho : o.op = .call { callee := .value (.func f), args := xs.toArray, argTypes := ts } := by exact rfl) (hx : Evs l xs vs := by repeat' first | exact trivial | refine ⟨rfl, ?_⟩) : wL P N ops Q (o :: rest) l w := wL_call (wg hg hj hv hr) hd hN (e_call ho heg hx) hc h
theorem caln {C : World → Prop} {n : Nat} {listed listed' : Array Bool} {vs : List Value} {R : Ending → World → Prop} {xs : List Operand} {ts : Array TypeId} (j : Nat) (hi' : ops[j]? = some o) (heg : ∀ args w, (callFunc f args).run P w = .ok (.enter f args) w) (hc : Calls P f vs.toArray w R)
    (h : ∀ e w', R e w' → ∃ v, e = .returned v ∧ C w' ∧ wA P N ops Q C n listed' ((d, v) :: l) w') (hl : listed.setIfInBounds j true = listed' := by exact rfl) (hw : o.guard = none := by exact rfl) (hd : o.dst = some d := by exact rfl) (hN : Nat.blt d N = true := by exact rfl)
    (ho : o.op = .call { callee := .value (.func f), args := xs.toArray, argTypes := ts } := by exact rfl) (hx : Evs l xs vs := by repeat' first | exact trivial | refine ⟨rfl, ?_⟩) : wK P N ops Q C n j listed l w := wN_call_ hi' hl (wn hw) hd hN (e_call ho heg hx) hc h
theorem na {row : Array Value} (S : St B w0 w fs) (hz : ∀ w, (zeroValue t).run P w = .ok z w) (h : ∀ b w', St B w0 w' (.blk b row t :: fs) → wL P N ops Q rest ((d, .pointer (some ⟨b, 0, none⟩)) :: l) w') (hw : o.guard = none := by exact rfl) (hd : o.dst = some d := by exact rfl)
    (hN : Nat.blt d N = true := by exact rfl) (ho : o.op = .alloc t := by exact rfl) (hc : z.cells = row := by exact rfl) : wL P N ops Q (o :: rest) l w := wL_new (V := fun b => .pointer (some ⟨b, 0, none⟩)) S (wn hw) hd hN (d_alloc ho (hz w) hc) h
theorem nb {row : Array Value} (S : St B w0 w fs) (h : ∀ b w', St B w0 w' (.blk b row t :: fs) → wL P N ops Q rest ((d, .pointer (some ⟨b, 0, none⟩)) :: l) w') (hw : o.guard = none := by exact rfl) (hd : o.dst = some d := by exact rfl)
    (hN : Nat.blt d N = true := by exact rfl) (ho : o.op = .box t x := by exact rfl) (hx : ev l x = some p := by exact rfl) (hc : p.cells = row := by exact rfl) : wL P N ops Q (o :: rest) l w := wL_new (V := fun b => .pointer (some ⟨b, 0, none⟩)) S (wn hw) hd hN (d_box ho hx hc) h
theorem cal {vs : List Value} {R : Ending → World → Prop} {xs : List Operand} {ts : Array TypeId} (heg : ∀ args w, (callFunc f args).run P w = .ok (.enter f args) w) (hc : Calls P f vs.toArray w R) (h : ∀ e w', R e w' → ∃ v, e = .returned v ∧ wL P N ops Q rest ((d, v) :: l) w')
    (hw : o.guard = none := by exact rfl) (hd : o.dst = some d := by exact rfl) (hN : Nat.blt d N = true := by exact rfl) (ho : o.op = .call { callee := .value (.func f), args := xs.toArray, argTypes := ts } := by exact rfl) (hx : Evs l xs vs := by repeat' first | exact trivial | refine ⟨rfl, ?_⟩) :
    wL P N ops Q (o :: rest) l w := wL_call (wn hw) hd hN (e_call ho heg hx) hc h
theorem cab {vs : List Value} {xs : List Operand} {ts : Array TypeId} (heg : ∀ args w, (callFunc f args).run P w = .ok (.enter f args) w) (S : St B w0 w fs) (hc : Calls P f vs.toArray w fun e w' => e = .returned v ∧ Below w.heap.size w w') (h : ∀ w', St B w0 w' fs → wL P N ops Q rest ((d, v) :: l) w')
    (hw : o.guard = none := by exact rfl) (hd : o.dst = some d := by exact rfl) (hN : Nat.blt d N = true := by exact rfl) (ho : o.op = .call { callee := .value (.func f), args := xs.toArray, argTypes := ts } := by exact rfl) (hx : Evs l xs vs := by repeat' first | exact trivial | refine ⟨rfl, ?_⟩) :
    wL P N ops Q (o :: rest) l w := wL_call (wn hw) hd hN (e_call ho heg hx) hc fun _ w' h' => ⟨v, h'.1, h w' (S.on h'.2)⟩
theorem pt {fn : Func} {R : Ending → World → Prop} {j : Nat} (hR : R (.returned (tupOf [v])) w) (hr : fn.results = [ResultVar.tmp j].toArray := by exact rfl) (h2 : lk l j = some v := by exact rfl) : wQ N (bodyPost P fn R) .ret l w := wQ_post (vs := [v]) hr ⟨h2, trivial⟩ hR
theorem fnw {fn : Func} {c : Code} {vs : List Value} {R : Ending → World → Prop} (N : Nat) (hf : P.funcs[f]? = some fn) (h : wC P N c (bodyPost P fn R) (ents 0 vs) w) (hb : fn.body = some c := by exact rfl) (hn : fn.ntmps = N := by exact rfl) (hN : Nat.ble vs.length N = true := by exact rfl) : Calls P f vs.toArray w R := calls_of_wC hf hb hn hN h
end
/-! ### Chains of steps of code -/
section
theorem x_tysr {c6 c8 : Code} {q3 : Exit → Act → World → Prop} {o4 : Operand} {i10 : Nat} {os9 : List Oper} (h : wL P N os9.toArray (Exit.then (c8.wp P q3) q3) os9 l w) (hc0 : ev l o4 = some (.bool true) := by exact rfl) : wQ N (Exit.then ((Code.cond o4 (Code.seq (Code.region i10 os9.toArray false) c8) c6).wp P q3) q3) .normal l w := wQ_then (wC_cond_t hc0 (wC_seq (wC_region h)))
theorem x_teh {q5 : Exit → Act → World → Prop} {k4 : Act → World → Prop} (h : wQ N q5 .ret l w) : wQ N (Exit.then (Code.ret.wp P (Exit.then k4 q5)) (Exit.then k4 q5)) .normal l w := wQ_then (wC_ret (wQ_then_ret h))
theorem x_tsr {c5 : Code} {q3 : Exit → Act → World → Prop} {i7 : Nat} {os6 : List Oper} (h : wL P N os6.toArray (Exit.then (c5.wp P q3) q3) os6 l w) : wQ N (Exit.then ((Code.seq (Code.region i7 os6.toArray false) c5).wp P q3) q3) .normal l w := wQ_then (wC_seq (wC_region h))
theorem x_tnsr {c5 c8 : Code} {q3 : Exit → Act → World → Prop} {o4 : Operand} {i10 : Nat} {os9 : List Oper} (h : wL P N os9.toArray (Exit.then (c8.wp P q3) q3) os9 l w) (hc0 : ev l o4 = some (.bool false) := by exact rfl) : wQ N (Exit.then ((Code.cond o4 c5 (Code.seq (Code.region i10 os9.toArray false) c8)).wp P q3) q3) .normal l w := wQ_then (wC_cond_f hc0 (wC_seq (wC_region h)))
theorem x_tssr {c5 c7 : Code} {q3 : Exit → Act → World → Prop} {i9 : Nat} {os8 : List Oper} (h : wL P N os8.toArray (Exit.then (c7.wp P (Exit.then (c5.wp P q3) q3)) (Exit.then (c5.wp P q3) q3)) os8 l w) : wQ N (Exit.then ((Code.seq (Code.seq (Code.region i9 os8.toArray false) c7) c5).wp P q3) q3) .normal l w := wQ_then (wC_seq (wC_seq (wC_region h)))
theorem x_te {q3 : Exit → Act → World → Prop} (h : wQ N q3 .ret l w) : wQ N (Exit.then (Code.ret.wp P q3) q3) .normal l w := wQ_then (wC_ret h)
theorem x_tnktsr {c5 c10 : Code} {q8 : Exit → Act → World → Prop} {o4 : Operand} {i12 : Nat} {os11 : List Oper} (h : wL P N os11.toArray (Exit.then (c10.wp P q8) q8) os11 l w) (hc0 : ev l o4 = some (.bool false) := by exact rfl) : wQ N (Exit.then ((Code.cond o4 c5 Code.skip).wp P (Exit.then ((Code.seq (Code.region i12 os11.toArray false) c10).wp P q8) q8)) (Exit.then ((Code.seq (Code.region i12 os11.toArray false) c10).wp P q8) q8)) .normal l w := wQ_then (wC_cond_f hc0 (wC_skip (wQ_then (wC_seq (wC_region h)))))
theorem x_tnktssr {c5 c10 c12 : Code} {q8 : Exit → Act → World → Prop} {o4 : Operand} {i14 : Nat} {os13 : List Oper} (h : wL P N os13.toArray (Exit.then (c12.wp P (Exit.then (c10.wp P q8) q8)) (Exit.then (c10.wp P q8) q8)) os13 l w) (hc0 : ev l o4 = some (.bool false) := by exact rfl) : wQ N (Exit.then ((Code.cond o4 c5 Code.skip).wp P (Exit.then ((Code.seq (Code.seq (Code.region i14 os13.toArray false) c12) c10).wp P q8) q8)) (Exit.then ((Code.seq (Code.seq (Code.region i14 os13.toArray false) c12) c10).wp P q8) q8)) .normal l w := wQ_then (wC_cond_f hc0 (wC_skip (wQ_then (wC_seq (wC_seq (wC_region h))))))
theorem x_tech {q7 : Exit → Act → World → Prop} {i4 : Nat} {k6 : Act → World → Prop} (h : wQ N q7 .ret l w) : wQ N (Exit.then (Code.ret.wp P (Exit.inBlock i4 (Exit.then k6 q7))) (Exit.inBlock i4 (Exit.then k6 q7))) .normal l w := wQ_then (wC_ret (wQ_blk_ret (wQ_then_ret h)))
theorem x_tr {q3 : Exit → Act → World → Prop} {i5 : Nat} {os4 : List Oper} (h : wL P N os4.toArray q3 os4 l w) : wQ N (Exit.then ((Code.region i5 os4.toArray false).wp P q3) q3) .normal l w := wQ_then (wC_region h)
theorem x_utssr {c7 c9 : Code} {q5 : Exit → Act → World → Prop} {i2 i11 : Nat} {os10 : List Oper} (h : wL P N os10.toArray (Exit.then (c9.wp P (Exit.then (c7.wp P q5) q5)) (Exit.then (c7.wp P q5) q5)) os10 l w) : wQ N (Exit.inBlock i2 (Exit.then ((Code.seq (Code.seq (Code.region i11 os10.toArray false) c9) c7).wp P q5) q5)) .normal l w := wQ_blk_n (wQ_then (wC_seq (wC_seq (wC_region h))))
theorem x_tbsr {c7 : Code} {q3 : Exit → Act → World → Prop} {i5 i9 : Nat} {os8 : List Oper} (h : wL P N os8.toArray (Exit.then (c7.wp P (Exit.inBlock i5 q3)) (Exit.inBlock i5 q3)) os8 l w) : wQ N (Exit.then ((Code.block i5 (Code.seq (Code.region i9 os8.toArray false) c7)).wp P q3) q3) .normal l w := wQ_then (wC_block (wC_seq (wC_region h)))
theorem x_sr {c4 : Code} {q2 : Exit → Act → World → Prop} {i6 : Nat} {os5 : List Oper} (h : wL P N os5.toArray (Exit.then (c4.wp P q2) q2) os5 l w) : wC P N (Code.seq (Code.region i6 os5.toArray false) c4) q2 l w := wC_seq (wC_region h)
end
end
end Go.Proofs.YtkjlafpafmihaaaDoor

namespace Go.Proofs.YtkjlafpafmihaaaDoor
open Go.ChangeShapes Go.WideShapes Go.RowKit

set_option maxRecDepth 100000 in
set_option maxHeartbeats 8000000 in
theorem ActWord_calls (x : Ac) (w : World) :
    Calls Tryd.prog 23 #[.agg #[.int .i64 x.kd, .int .i64 x.nd, .int .i64 x.qu, .int .i64 x.at_, .int .i64 x.kp, .int .i64 x.ek, .int .i64 x.ep, .int .i64 x.ei, .int .i64 x.eb, .int .i64 x.eh, .int .i64 x.en]] w (StrPost w (wordOf x.kd x.ek)) := by
 have S := St.start w
 refine fnw 50 Tryd.func23 ?_
 refine cw [0] ?_
 refine x_sr (nb (row := #[.int .i64 x.kd, .int .i64 x.nd, .int .i64 x.qu, .int .i64 x.at_, .int .i64 x.kp, .int .i64 x.ek, .int .i64 x.ep, .int .i64 x.ei, .int .i64 x.eb, .int .i64 x.eh, .int .i64 x.en]) S ?_); intro b1 w2 S3; clear S
 refine va ?_
 refine qk [1, 2] ?_
 refine x_tssr (vv (yfa 0 fa41_0) ?_)
 refine vv (ylc 0 S3 Tryd.underlying3) ?_
 refine qk [1, 2, 4] ?_
 refine x_tbsr ?_
 by_cases h4 : x.kd = 1
 ·refine vv (yeqlT h4) ?_
  refine va ?_
  refine qk [1, 2, 4, 5] ?_
  refine x_tysr (va ?_)
  refine qk [2] ?_
  refine x_tech (wQ_post (rs := [.tmp 2]) (vs := [.string ⟨#[109, 97, 107, 101]⟩]) rfl ⟨rfl, trivial⟩ ?_)
  rw [show wordOf x.kd x.ek = ⟨#[109, 97, 107, 101]⟩ from by simp [wordOf, h4]]
  exact ⟨rfl, S3.low⟩
 ·refine vv (yeqlF h4) ?_
  refine va ?_
  refine qk [1, 2, 4, 5] ?_
  refine x_tnsr ?_
  by_cases h5 : x.kd = 10
  ·refine vv (yeqlT h5) ?_
   refine va ?_
   refine qk [1, 2, 4, 7] ?_
   refine x_tysr (va ?_)
   refine qk [2] ?_
   refine x_tech (wQ_post (rs := [.tmp 2]) (vs := [.string ⟨#[109, 111, 118, 101]⟩]) rfl ⟨rfl, trivial⟩ ?_)
   rw [show wordOf x.kd x.ek = ⟨#[109, 111, 118, 101]⟩ from by simp [wordOf, h4, h5]]
   exact ⟨rfl, S3.low⟩
  ·refine vv (yeqlF h5) ?_
   refine va ?_
   refine qk [1, 2, 4, 7] ?_
   refine x_tnsr ?_
   by_cases h6 : x.kd = 3
   ·refine vv (yeqlT h6) ?_
    refine va ?_
    refine qk [1, 2, 4, 9] ?_
    refine x_tysr (va ?_)
    refine qk [2] ?_
    refine x_tech (wQ_post (rs := [.tmp 2]) (vs := [.string ⟨#[115, 116, 101, 112]⟩]) rfl ⟨rfl, trivial⟩ ?_)
    rw [show wordOf x.kd x.ek = ⟨#[115, 116, 101, 112]⟩ from by simp [wordOf, h4, h5, h6]]
    exact ⟨rfl, S3.low⟩
   ·refine vv (yeqlF h6) ?_
    refine va ?_
    refine qk [1, 2, 4, 9] ?_
    refine x_tnsr ?_
    by_cases h7 : x.kd = 9
    ·refine vv (yeqlT h7) ?_
     refine va ?_
     refine qk [1, 2, 4, 11] ?_
     refine x_tysr (va ?_)
     refine qk [2] ?_
     refine x_tech (wQ_post (rs := [.tmp 2]) (vs := [.string ⟨#[115, 116, 97, 114, 116]⟩]) rfl ⟨rfl, trivial⟩ ?_)
     rw [show wordOf x.kd x.ek = ⟨#[115, 116, 97, 114, 116]⟩ from by simp [wordOf, h4, h5, h6, h7]]
     exact ⟨rfl, S3.low⟩
    ·refine vv (yeqlF h7) ?_
     refine va ?_
     refine qk [1, 2, 4, 11] ?_
     refine x_tnsr ?_
     by_cases h8 : x.kd = 8
     ·refine vv (yeqlT h8) ?_
      refine va ?_
      refine qk [1, 2, 4, 13] ?_
      refine x_tysr (va ?_)
      refine qk [2] ?_
      refine x_tech (wQ_post (rs := [.tmp 2]) (vs := [.string ⟨#[99, 114, 97, 115, 104]⟩]) rfl ⟨rfl, trivial⟩ ?_)
      rw [show wordOf x.kd x.ek = ⟨#[99, 114, 97, 115, 104]⟩ from by simp [wordOf, h4, h5, h6, h7, h8]]
      exact ⟨rfl, S3.low⟩
     ·refine vv (yeqlF h8) ?_
      refine va ?_
      refine qk [1, 2, 4, 13] ?_
      refine x_tnsr ?_
      by_cases h9 : x.kd = 4
      ·refine vv (yeqlT h9) ?_
       refine va ?_
       refine qk [1, 2, 4, 15] ?_
       refine x_tysr (va ?_)
       refine qk [2] ?_
       refine x_tech (wQ_post (rs := [.tmp 2]) (vs := [.string ⟨#[99, 97, 114, 114, 121]⟩]) rfl ⟨rfl, trivial⟩ ?_)
       rw [show wordOf x.kd x.ek = ⟨#[99, 97, 114, 114, 121]⟩ from by simp [wordOf, h4, h5, h6, h7, h8, h9]]
       exact ⟨rfl, S3.low⟩
      ·refine vv (yeqlF h9) ?_
       refine va ?_
       refine qk [1, 2, 4, 15] ?_
       refine x_tnsr ?_
       by_cases h10 : x.kd = 5
       ·refine vv (yeqlT h10) ?_
        refine va ?_
        refine qk [1, 2, 4, 17] ?_
        refine x_tysr (va ?_)
        refine qk [2] ?_
        refine x_tech (wQ_post (rs := [.tmp 2]) (vs := [.string ⟨#[108, 111, 115, 101]⟩]) rfl ⟨rfl, trivial⟩ ?_)
        rw [show wordOf x.kd x.ek = ⟨#[108, 111, 115, 101]⟩ from by simp [wordOf, h4, h5, h6, h7, h8, h9, h10]]
        exact ⟨rfl, S3.low⟩
       ·refine vv (yeqlF h10) ?_
        refine va ?_
        refine qk [1, 2, 4, 17] ?_
        refine x_tnsr ?_
        by_cases h11 : x.kd = 6
        ·refine vv (yeqlT h11) ?_
         refine va ?_
         refine qk [1, 2, 4, 19] ?_
         refine x_tysr (va ?_)
         refine qk [2] ?_
         refine x_tech (wQ_post (rs := [.tmp 2]) (vs := [.string ⟨#[100, 111, 117, 98, 108, 101]⟩]) rfl ⟨rfl, trivial⟩ ?_)
         rw [show wordOf x.kd x.ek = ⟨#[100, 111, 117, 98, 108, 101]⟩ from by simp [wordOf, h4, h5, h6, h7, h8, h9, h10, h11]]
         exact ⟨rfl, S3.low⟩
        ·refine vv (yeqlF h11) ?_
         refine va ?_
         refine qk [1, 2, 4, 19] ?_
         refine x_tnsr ?_
         by_cases h12 : x.kd = 7
         ·refine vv (yeqlT h12) ?_
          refine va ?_
          refine qk [1, 2, 21] ?_
          refine x_tysr (va ?_)
          refine qk [2] ?_
          refine x_tech (wQ_post (rs := [.tmp 2]) (vs := [.string ⟨#[97, 108, 108]⟩]) rfl ⟨rfl, trivial⟩ ?_)
          rw [show wordOf x.kd x.ek = ⟨#[97, 108, 108]⟩ from by simp [wordOf, h4, h5, h6, h7, h8, h9, h10, h11, h12]]
          exact ⟨rfl, S3.low⟩
         ·refine vv (yeqlF h12) ?_
          refine va ?_
          refine qk [1, 2, 21] ?_
          refine wQ_then (wC_cond_f rfl (wC_skip (wQ_blk_n (wQ_then (wC_seq (wC_seq (wC_region (vv (yfa 0 fa41_0) ?_))))))))
          refine vv (ylc 0 S3 Tryd.underlying3) ?_
          by_cases h13 : x.kd = 2
          ·refine vv (yeqlT h13) ?_
           refine vm ?_
           refine vg (yfa 5 fa41_5) ?_
           refine vg (yfa 5 fa39_0) ?_
           refine vg (ylc 0 S3 Tryd.underlying3) ?_
           by_cases h14 : x.ek = 1
           ·refine vg (yeqlT h14) ?_
            refine vv ypT ?_
            refine qk [1, 2, 31] ?_
            refine x_tysr (va ?_)
            refine qk [2] ?_
            refine x_teh (wQ_post (rs := [.tmp 2]) (vs := [.string ⟨#[112, 117, 98, 108, 105, 115, 104]⟩]) rfl ⟨rfl, trivial⟩ ?_)
            rw [show wordOf x.kd x.ek = ⟨#[112, 117, 98, 108, 105, 115, 104]⟩ from by simp [wordOf, h4, h5, h6, h7, h8, h9, h10, h11, h12, h13, h14]]
            exact ⟨rfl, S3.low⟩
           ·refine vg (yeqlF h14) ?_
            refine vv ypT ?_
            refine qk [1, 2, 31] ?_
            refine x_tnktssr (vv (yfa 0 fa41_0) ?_)
            refine vv (ylc 0 S3 Tryd.underlying3) ?_
            refine vv (yeqlT h13) ?_
            refine vm ?_
            refine vg (yfa 5 fa41_5) ?_
            refine vg (yfa 5 fa39_0) ?_
            refine vg (ylc 0 S3 Tryd.underlying3) ?_
            by_cases h15 : x.ek = 2
            ·refine vg (yeqlT h15) ?_
             refine vv ypT ?_
             refine qk [1, 2, 40] ?_
             refine x_tysr (va ?_)
             refine qk [2] ?_
             refine x_teh (wQ_post (rs := [.tmp 2]) (vs := [.string ⟨#[114, 101, 99, 101, 105, 118, 101]⟩]) rfl ⟨rfl, trivial⟩ ?_)
             rw [show wordOf x.kd x.ek = ⟨#[114, 101, 99, 101, 105, 118, 101]⟩ from by simp [wordOf, h4, h5, h6, h7, h8, h9, h10, h11, h12, h13, h14, h15]]
             exact ⟨rfl, S3.low⟩
            ·refine vg (yeqlF h15) ?_
             refine vv ypT ?_
             refine qk [1, 2, 40] ?_
             refine x_tnktssr (vv (yfa 0 fa41_0) ?_)
             refine vv (ylc 0 S3 Tryd.underlying3) ?_
             refine vv (yeqlT h13) ?_
             refine vm ?_
             refine vg (yfa 5 fa41_5) ?_
             refine vg (yfa 5 fa39_0) ?_
             refine vg (ylc 0 S3 Tryd.underlying3) ?_
             by_cases h16 : x.ek = 3
             ·refine vg (yeqlT h16) ?_
              refine vv ypT ?_
              refine qk [2, 49] ?_
              refine x_tysr (va ?_)
              refine qk [2] ?_
              refine x_teh (wQ_post (rs := [.tmp 2]) (vs := [.string ⟨#[97, 99, 107]⟩]) rfl ⟨rfl, trivial⟩ ?_)
              rw [show wordOf x.kd x.ek = ⟨#[97, 99, 107]⟩ from by simp [wordOf, h4, h5, h6, h7, h8, h9, h10, h11, h12, h13, h14, h15, h16]]
              exact ⟨rfl, S3.low⟩
             ·refine vg (yeqlF h16) ?_
              refine vv ypT ?_
              refine qk [2, 49] ?_
              refine x_tnktsr (va ?_)
              refine qk [2] ?_
              refine x_te (wQ_post (rs := [.tmp 2]) (vs := [.string ⟨#[]⟩]) rfl ⟨rfl, trivial⟩ ?_)
              rw [show wordOf x.kd x.ek = ⟨#[]⟩ from by simp [wordOf, h4, h5, h6, h7, h8, h9, h10, h11, h12, h13, h14, h15, h16]]
              exact ⟨rfl, S3.low⟩
          ·refine vv (yeqlF h13) ?_
           refine vm ?_
           iterate 4 refine vs ?_
           refine vv ypF ?_
           refine qk [1, 2, 31] ?_
           refine x_tnktssr (vv (yfa 0 fa41_0) ?_)
           refine vv (ylc 0 S3 Tryd.underlying3) ?_
           refine vv (yeqlF h13) ?_
           refine vm ?_
           iterate 4 refine vs ?_
           refine vv ypF ?_
           refine qk [1, 2, 40] ?_
           refine x_tnktssr (vv (yfa 0 fa41_0) ?_)
           refine vv (ylc 0 S3 Tryd.underlying3) ?_
           refine vv (yeqlF h13) ?_
           refine vm ?_
           iterate 4 refine vs ?_
           refine vv ypF ?_
           refine qk [2, 49] ?_
           refine x_tnktsr (va ?_)
           refine qk [2] ?_
           refine x_te (wQ_post (rs := [.tmp 2]) (vs := [.string ⟨#[]⟩]) rfl ⟨rfl, trivial⟩ ?_)
           rw [show wordOf x.kd x.ek = ⟨#[]⟩ from by simp [wordOf, h4, h5, h6, h7, h8, h9, h10, h11, h12, h13]]
           exact ⟨rfl, S3.low⟩

set_option maxRecDepth 100000 in
set_option maxHeartbeats 8000000 in
theorem actNumbers_calls (x : Ac) (l : List (Nat × Int)) (hf : formL x.kd x.ek = some l) (w : World) :
    Calls Tryd.prog 24 #[.agg #[.int .i64 x.kd, .int .i64 x.nd, .int .i64 x.qu, .int .i64 x.at_, .int .i64 x.kp, .int .i64 x.ek, .int .i64 x.ep, .int .i64 x.ei, .int .i64 x.eb, .int .i64 x.eh, .int .i64 x.en]] w (NumPost w x l) := by
 have S := St.start w
 refine fnw 79 Tryd.func24 ?_
 refine cw [0] ?_
 refine x_sr (nb (row := #[.int .i64 x.kd, .int .i64 x.nd, .int .i64 x.qu, .int .i64 x.at_, .int .i64 x.kp, .int .i64 x.ek, .int .i64 x.ep, .int .i64 x.ei, .int .i64 x.eb, .int .i64 x.eh, .int .i64 x.en]) S ?_); intro b1 w2 S3; clear S
 iterate 2 refine va ?_
 refine qk [1, 2, 3] ?_
 refine wQ_then (wC_seq (wC_seq ?_))
 rcases kinds x.kd x.ek with hk | hk | hk | hk | hk | hk | hk | hk | hk | ⟨hk, hek⟩ | ⟨hk, hek⟩ | ⟨hk, hek⟩ | hn
 ·have hl := hf
  simp [formL, hk] at hl
  subst hl
  have HW := fun w => ActWord_calls x w
  rw [show wordOf x.kd x.ek = ⟨#[109, 97, 107, 101]⟩ from by simp [wordOf, hk]] at HW
  refine wC_region (vv (ylr 0 S3 Tryd.underlying41 inf41) ?_)
  refine cab en23 S3 (HW _) ?_; intro w4 S5; clear S3
  refine qk [1, 2, 3, 5] ?_
  refine wQ_then (wC_block (wC_seq (wC_seq (wC_region (vv (v := .bool true) (y_binop rfl rfl rfl (r_seql (by kernel_rfl))) ?_)))))
  refine va ?_
  refine qk [1, 2, 3, 5, 6] ?_
  refine wQ_then (wC_cond_t rfl (wC_skip (wQ_then (wC_cond_t rfl (wC_seq (wC_region (vv (yfa 2 fa41_2) ?_)))))))
  refine vv (ylc 0 S5 Tryd.underlying3) ?_
  refine vv (yfa 1 fa41_1) ?_
  refine vv (ylc 0 S5 Tryd.underlying3) ?_
  refine wL_new (V := fun b => .slice (some ⟨b, 0, none⟩) 2 2) (row := #[.int .i64 x.qu, .int .i64 x.nd]) (t := 3) S5 (wn rfl) rfl rfl (d_buildSlice (vs := [(0, .int .i64 x.qu), (1, .int .i64 x.nd)]) rfl ⟨rfl, rfl, rfl, rfl, trivial⟩ (by kernel_rfl)) ?_; intro b7 w8 S9; clear S5
  refine wL_new (V := fun b => .slice (some ⟨b, 0, none⟩) 2 2) (row := #[.int .i64 3, .int .i64 4]) (t := 3) S9 (wn rfl) rfl rfl (d_buildSlice (vs := [(0, .int .i64 3), (1, .int .i64 4)]) rfl ⟨rfl, rfl, rfl, rfl, trivial⟩ (by kernel_rfl)) ?_; intro b10 w11 S12; clear S9
  iterate 2 refine va ?_
  refine qk [2, 3] ?_
  refine x_tech (wQ_post (rs := [.tmp 2, .tmp 3]) (vs := [.slice (some ⟨b7, 0, none⟩) 2 2, .slice (some ⟨b10, 0, none⟩) 2 2]) rfl ⟨rfl, rfl, trivial⟩ ?_)
  have S13 : St _ _ _ [_, _] := S12.dels [2]; clear S12
  have S14 : St w.heap.size w w11 [_, _] := S13.re [1, 0] (by decide); clear S13
  have S9 := St.blkRdo (s := 1) (n := 2) (xs := [.int .i64 x.qu, .int .i64 x.nd]) 0 S14 rfl rfl rfl
  have S10 := St.blkRdo (s := 1) (n := 2) (xs := [.int .i64 3, .int .i64 4]) 1 S9 rfl rfl rfl
  exact ⟨_, _, rfl, S10⟩
 ·have hl := hf
  simp [formL, hk] at hl
  subst hl
  have HW := fun w => ActWord_calls x w
  rw [show wordOf x.kd x.ek = ⟨#[109, 111, 118, 101]⟩ from by simp [wordOf, hk]] at HW
  refine wC_region (vv (ylr 0 S3 Tryd.underlying41 inf41) ?_)
  refine cab en23 S3 (HW _) ?_; intro w15 S16; clear S3
  refine qk [1, 2, 3, 5] ?_
  refine wQ_then (wC_block (wC_seq (wC_seq (wC_region (vv (v := .bool false) (y_binop rfl rfl rfl (r_seql (by kernel_rfl))) ?_)))))
  refine va ?_
  refine qk [1, 2, 3, 5, 6] ?_
  refine wQ_then (wC_cond_f rfl (wC_region (vv (v := .bool true) (y_binop rfl rfl rfl (r_seql (by kernel_rfl))) ?_)))
  refine va ?_
  refine qk [1, 2, 3, 5, 6] ?_
  refine x_tysr (vv (yfa 2 fa41_2) ?_)
  refine vv (ylc 0 S16 Tryd.underlying3) ?_
  refine vv (yfa 1 fa41_1) ?_
  refine vv (ylc 0 S16 Tryd.underlying3) ?_
  refine wL_new (V := fun b => .slice (some ⟨b, 0, none⟩) 2 2) (row := #[.int .i64 x.qu, .int .i64 x.nd]) (t := 3) S16 (wn rfl) rfl rfl (d_buildSlice (vs := [(0, .int .i64 x.qu), (1, .int .i64 x.nd)]) rfl ⟨rfl, rfl, rfl, rfl, trivial⟩ (by kernel_rfl)) ?_; intro b18 w19 S20; clear S16
  refine wL_new (V := fun b => .slice (some ⟨b, 0, none⟩) 2 2) (row := #[.int .i64 3, .int .i64 4]) (t := 3) S20 (wn rfl) rfl rfl (d_buildSlice (vs := [(0, .int .i64 3), (1, .int .i64 4)]) rfl ⟨rfl, rfl, rfl, rfl, trivial⟩ (by kernel_rfl)) ?_; intro b21 w22 S23; clear S20
  iterate 2 refine va ?_
  refine qk [2, 3] ?_
  refine x_tech (wQ_post (rs := [.tmp 2, .tmp 3]) (vs := [.slice (some ⟨b18, 0, none⟩) 2 2, .slice (some ⟨b21, 0, none⟩) 2 2]) rfl ⟨rfl, rfl, trivial⟩ ?_)
  have S24 : St _ _ _ [_, _] := S23.dels [2]; clear S23
  have S25 : St w.heap.size w w22 [_, _] := S24.re [1, 0] (by decide); clear S24
  have S9 := St.blkRdo (s := 1) (n := 2) (xs := [.int .i64 x.qu, .int .i64 x.nd]) 0 S25 rfl rfl rfl
  have S10 := St.blkRdo (s := 1) (n := 2) (xs := [.int .i64 3, .int .i64 4]) 1 S9 rfl rfl rfl
  exact ⟨_, _, rfl, S10⟩
 ·have hl := hf
  simp [formL, hk] at hl
  subst hl
  have HW := fun w => ActWord_calls x w
  rw [show wordOf x.kd x.ek = ⟨#[115, 116, 101, 112]⟩ from by simp [wordOf, hk]] at HW
  refine wC_region (vv (ylr 0 S3 Tryd.underlying41 inf41) ?_)
  refine cab en23 S3 (HW _) ?_; intro w26 S27; clear S3
  refine qk [1, 2, 3, 5] ?_
  refine wQ_then (wC_block (wC_seq (wC_seq (wC_region (vv (v := .bool false) (y_binop rfl rfl rfl (r_seql (by kernel_rfl))) ?_)))))
  refine va ?_
  refine qk [1, 2, 3, 5, 6] ?_
  refine wQ_then (wC_cond_f rfl (wC_region (vv (v := .bool false) (y_binop rfl rfl rfl (r_seql (by kernel_rfl))) ?_)))
  refine va ?_
  refine qk [1, 2, 3, 5, 6] ?_
  refine wQ_then (wC_cond_f rfl (wC_seq (wC_seq (wC_region (vv (v := .bool true) (y_binop rfl rfl rfl (r_seql (by kernel_rfl))) ?_)))))
  refine va ?_
  refine qk [1, 2, 3, 5, 15] ?_
  refine wQ_then (wC_cond_t rfl (wC_skip (wQ_then (wC_cond_t rfl (wC_seq (wC_region (vv (yfa 1 fa41_1) ?_)))))))
  refine vv (ylc 0 S27 Tryd.underlying3) ?_
  refine wL_new (V := fun b => .slice (some ⟨b, 0, none⟩) 1 1) (row := #[.int .i64 x.nd]) (t := 3) S27 (wn rfl) rfl rfl (d_buildSlice (vs := [(0, .int .i64 x.nd)]) rfl ⟨rfl, rfl, trivial⟩ (by kernel_rfl)) ?_; intro b29 w30 S31; clear S27
  refine wL_new (V := fun b => .slice (some ⟨b, 0, none⟩) 1 1) (row := #[.int .i64 4]) (t := 3) S31 (wn rfl) rfl rfl (d_buildSlice (vs := [(0, .int .i64 4)]) rfl ⟨rfl, rfl, trivial⟩ (by kernel_rfl)) ?_; intro b32 w33 S34; clear S31
  iterate 2 refine va ?_
  refine qk [2, 3] ?_
  refine x_tech (wQ_post (rs := [.tmp 2, .tmp 3]) (vs := [.slice (some ⟨b29, 0, none⟩) 1 1, .slice (some ⟨b32, 0, none⟩) 1 1]) rfl ⟨rfl, rfl, trivial⟩ ?_)
  have S35 : St _ _ _ [_, _] := S34.dels [2]; clear S34
  have S36 : St w.heap.size w w33 [_, _] := S35.re [1, 0] (by decide); clear S35
  have S9 := St.blkRdo (s := 1) (n := 1) (xs := [.int .i64 x.nd]) 0 S36 rfl rfl rfl
  have S10 := St.blkRdo (s := 1) (n := 1) (xs := [.int .i64 4]) 1 S9 rfl rfl rfl
  exact ⟨_, _, rfl, S10⟩
 ·have hl := hf
  simp [formL, hk] at hl
  subst hl
  have HW := fun w => ActWord_calls x w
  rw [show wordOf x.kd x.ek = ⟨#[115, 116, 97, 114, 116]⟩ from by simp [wordOf, hk]] at HW
  refine wC_region (vv (ylr 0 S3 Tryd.underlying41 inf41) ?_)
  refine cab en23 S3 (HW _) ?_; intro w37 S38; clear S3
  refine qk [1, 2, 3, 5] ?_
  refine wQ_then (wC_block (wC_seq (wC_seq (wC_region (vv (v := .bool false) (y_binop rfl rfl rfl (r_seql (by kernel_rfl))) ?_)))))
  refine va ?_
  refine qk [1, 2, 3, 5, 6] ?_
  refine wQ_then (wC_cond_f rfl (wC_region (vv (v := .bool false) (y_binop rfl rfl rfl (r_seql (by kernel_rfl))) ?_)))
  refine va ?_
  refine qk [1, 2, 3, 5, 6] ?_
  refine wQ_then (wC_cond_f rfl (wC_seq (wC_seq (wC_region (vv (v := .bool false) (y_binop rfl rfl rfl (r_seql (by kernel_rfl))) ?_)))))
  refine va ?_
  refine qk [1, 2, 3, 5, 15] ?_
  refine wQ_then (wC_cond_f rfl (wC_region (vv (v := .bool true) (y_binop rfl rfl rfl (r_seql (by kernel_rfl))) ?_)))
  refine va ?_
  refine qk [1, 2, 3, 5, 15] ?_
  refine x_tysr (vv (yfa 1 fa41_1) ?_)
  refine vv (ylc 0 S38 Tryd.underlying3) ?_
  refine wL_new (V := fun b => .slice (some ⟨b, 0, none⟩) 1 1) (row := #[.int .i64 x.nd]) (t := 3) S38 (wn rfl) rfl rfl (d_buildSlice (vs := [(0, .int .i64 x.nd)]) rfl ⟨rfl, rfl, trivial⟩ (by kernel_rfl)) ?_; intro b40 w41 S42; clear S38
  refine wL_new (V := fun b => .slice (some ⟨b, 0, none⟩) 1 1) (row := #[.int .i64 4]) (t := 3) S42 (wn rfl) rfl rfl (d_buildSlice (vs := [(0, .int .i64 4)]) rfl ⟨rfl, rfl, trivial⟩ (by kernel_rfl)) ?_; intro b43 w44 S45; clear S42
  iterate 2 refine va ?_
  refine qk [2, 3] ?_
  refine x_tech (wQ_post (rs := [.tmp 2, .tmp 3]) (vs := [.slice (some ⟨b40, 0, none⟩) 1 1, .slice (some ⟨b43, 0, none⟩) 1 1]) rfl ⟨rfl, rfl, trivial⟩ ?_)
  have S46 : St _ _ _ [_, _] := S45.dels [2]; clear S45
  have S47 : St w.heap.size w w44 [_, _] := S46.re [1, 0] (by decide); clear S46
  have S9 := St.blkRdo (s := 1) (n := 1) (xs := [.int .i64 x.nd]) 0 S47 rfl rfl rfl
  have S10 := St.blkRdo (s := 1) (n := 1) (xs := [.int .i64 4]) 1 S9 rfl rfl rfl
  exact ⟨_, _, rfl, S10⟩
 ·have hl := hf
  simp [formL, hk] at hl
  subst hl
  have HW := fun w => ActWord_calls x w
  rw [show wordOf x.kd x.ek = ⟨#[99, 114, 97, 115, 104]⟩ from by simp [wordOf, hk]] at HW
  refine wC_region (vv (ylr 0 S3 Tryd.underlying41 inf41) ?_)
  refine cab en23 S3 (HW _) ?_; intro w48 S49; clear S3
  refine qk [1, 2, 3, 5] ?_
  refine wQ_then (wC_block (wC_seq (wC_seq (wC_region (vv (v := .bool false) (y_binop rfl rfl rfl (r_seql (by kernel_rfl))) ?_)))))
  refine va ?_
  refine qk [1, 2, 3, 5, 6] ?_
  refine wQ_then (wC_cond_f rfl (wC_region (vv (v := .bool false) (y_binop rfl rfl rfl (r_seql (by kernel_rfl))) ?_)))
  refine va ?_
  refine qk [1, 2, 3, 5, 6] ?_
  refine wQ_then (wC_cond_f rfl (wC_seq (wC_seq (wC_region (vv (v := .bool false) (y_binop rfl rfl rfl (r_seql (by kernel_rfl))) ?_)))))
  refine va ?_
  refine qk [1, 2, 3, 5, 15] ?_
  refine wQ_then (wC_cond_f rfl (wC_region (vv (v := .bool false) (y_binop rfl rfl rfl (r_seql (by kernel_rfl))) ?_)))
  refine va ?_
  refine qk [1, 2, 3, 5, 15] ?_
  refine x_tnsr (vv (v := .bool true) (y_binop rfl rfl rfl (r_seql (by kernel_rfl))) ?_)
  refine va ?_
  refine qk [1, 2, 3, 5, 22] ?_
  refine x_tysr (vv (yfa 1 fa41_1) ?_)
  refine vv (ylc 0 S49 Tryd.underlying3) ?_
  refine vv (yfa 4 fa41_4) ?_
  refine vv (ylc 0 S49 Tryd.underlying3) ?_
  refine wL_new (V := fun b => .slice (some ⟨b, 0, none⟩) 2 2) (row := #[.int .i64 x.nd, .int .i64 x.kp]) (t := 3) S49 (wn rfl) rfl rfl (d_buildSlice (vs := [(0, .int .i64 x.nd), (1, .int .i64 x.kp)]) rfl ⟨rfl, rfl, rfl, rfl, trivial⟩ (by kernel_rfl)) ?_; intro b51 w52 S53; clear S49
  refine wL_new (V := fun b => .slice (some ⟨b, 0, none⟩) 2 2) (row := #[.int .i64 4, .int .i64 100000]) (t := 3) S53 (wn rfl) rfl rfl (d_buildSlice (vs := [(0, .int .i64 4), (1, .int .i64 100000)]) rfl ⟨rfl, rfl, rfl, rfl, trivial⟩ (by kernel_rfl)) ?_; intro b54 w55 S56; clear S53
  iterate 2 refine va ?_
  refine qk [2, 3] ?_
  refine x_tech (wQ_post (rs := [.tmp 2, .tmp 3]) (vs := [.slice (some ⟨b51, 0, none⟩) 2 2, .slice (some ⟨b54, 0, none⟩) 2 2]) rfl ⟨rfl, rfl, trivial⟩ ?_)
  have S57 : St _ _ _ [_, _] := S56.dels [2]; clear S56
  have S58 : St w.heap.size w w55 [_, _] := S57.re [1, 0] (by decide); clear S57
  have S9 := St.blkRdo (s := 1) (n := 2) (xs := [.int .i64 x.nd, .int .i64 x.kp]) 0 S58 rfl rfl rfl
  have S10 := St.blkRdo (s := 1) (n := 2) (xs := [.int .i64 4, .int .i64 100000]) 1 S9 rfl rfl rfl
  exact ⟨_, _, rfl, S10⟩
 ·have hl := hf
  simp [formL, hk] at hl
  subst hl
  have HW := fun w => ActWord_calls x w
  rw [show wordOf x.kd x.ek = ⟨#[99, 97, 114, 114, 121]⟩ from by simp [wordOf, hk]] at HW
  refine wC_region (vv (ylr 0 S3 Tryd.underlying41 inf41) ?_)
  refine cab en23 S3 (HW _) ?_; intro w59 S60; clear S3
  refine qk [1, 2, 3, 5] ?_
  refine wQ_then (wC_block (wC_seq (wC_seq (wC_region (vv (v := .bool false) (y_binop rfl rfl rfl (r_seql (by kernel_rfl))) ?_)))))
  refine va ?_
  refine qk [1, 2, 3, 5, 6] ?_
  refine wQ_then (wC_cond_f rfl (wC_region (vv (v := .bool false) (y_binop rfl rfl rfl (r_seql (by kernel_rfl))) ?_)))
  refine va ?_
  refine qk [1, 2, 3, 5, 6] ?_
  refine wQ_then (wC_cond_f rfl (wC_seq (wC_seq (wC_region (vv (v := .bool false) (y_binop rfl rfl rfl (r_seql (by kernel_rfl))) ?_)))))
  refine va ?_
  refine qk [1, 2, 3, 5, 15] ?_
  refine wQ_then (wC_cond_f rfl (wC_region (vv (v := .bool false) (y_binop rfl rfl rfl (r_seql (by kernel_rfl))) ?_)))
  refine va ?_
  refine qk [1, 2, 3, 5, 15] ?_
  refine x_tnsr (vv (v := .bool false) (y_binop rfl rfl rfl (r_seql (by kernel_rfl))) ?_)
  refine va ?_
  refine qk [1, 2, 3, 5, 22] ?_
  refine wQ_then (wC_cond_f rfl (wC_seq (wC_seq (wC_region (vv (v := .bool true) (y_binop rfl rfl rfl (r_seql (by kernel_rfl))) ?_)))))
  refine va ?_
  refine qk [1, 2, 3, 5, 30] ?_
  refine wQ_then (wC_cond_t rfl (wC_skip (wQ_then (wC_cond_t rfl (wC_seq (wC_region (vv (yfa 3 fa41_3) ?_)))))))
  refine vv (ylc 0 S60 Tryd.underlying3) ?_
  refine wL_new (V := fun b => .slice (some ⟨b, 0, none⟩) 1 1) (row := #[.int .i64 x.at_]) (t := 3) S60 (wn rfl) rfl rfl (d_buildSlice (vs := [(0, .int .i64 x.at_)]) rfl ⟨rfl, rfl, trivial⟩ (by kernel_rfl)) ?_; intro b62 w63 S64; clear S60
  refine wL_new (V := fun b => .slice (some ⟨b, 0, none⟩) 1 1) (row := #[.int .i64 1048576]) (t := 3) S64 (wn rfl) rfl rfl (d_buildSlice (vs := [(0, .int .i64 1048576)]) rfl ⟨rfl, rfl, trivial⟩ (by kernel_rfl)) ?_; intro b65 w66 S67; clear S64
  iterate 2 refine va ?_
  refine qk [2, 3] ?_
  refine x_tech (wQ_post (rs := [.tmp 2, .tmp 3]) (vs := [.slice (some ⟨b62, 0, none⟩) 1 1, .slice (some ⟨b65, 0, none⟩) 1 1]) rfl ⟨rfl, rfl, trivial⟩ ?_)
  have S68 : St _ _ _ [_, _] := S67.dels [2]; clear S67
  have S69 : St w.heap.size w w66 [_, _] := S68.re [1, 0] (by decide); clear S68
  have S9 := St.blkRdo (s := 1) (n := 1) (xs := [.int .i64 x.at_]) 0 S69 rfl rfl rfl
  have S10 := St.blkRdo (s := 1) (n := 1) (xs := [.int .i64 1048576]) 1 S9 rfl rfl rfl
  exact ⟨_, _, rfl, S10⟩
 ·have hl := hf
  simp [formL, hk] at hl
  subst hl
  have HW := fun w => ActWord_calls x w
  rw [show wordOf x.kd x.ek = ⟨#[108, 111, 115, 101]⟩ from by simp [wordOf, hk]] at HW
  refine wC_region (vv (ylr 0 S3 Tryd.underlying41 inf41) ?_)
  refine cab en23 S3 (HW _) ?_; intro w70 S71; clear S3
  refine qk [1, 2, 3, 5] ?_
  refine wQ_then (wC_block (wC_seq (wC_seq (wC_region (vv (v := .bool false) (y_binop rfl rfl rfl (r_seql (by kernel_rfl))) ?_)))))
  refine va ?_
  refine qk [1, 2, 3, 5, 6] ?_
  refine wQ_then (wC_cond_f rfl (wC_region (vv (v := .bool false) (y_binop rfl rfl rfl (r_seql (by kernel_rfl))) ?_)))
  refine va ?_
  refine qk [1, 2, 3, 5, 6] ?_
  refine wQ_then (wC_cond_f rfl (wC_seq (wC_seq (wC_region (vv (v := .bool false) (y_binop rfl rfl rfl (r_seql (by kernel_rfl))) ?_)))))
  refine va ?_
  refine qk [1, 2, 3, 5, 15] ?_
  refine wQ_then (wC_cond_f rfl (wC_region (vv (v := .bool false) (y_binop rfl rfl rfl (r_seql (by kernel_rfl))) ?_)))
  refine va ?_
  refine qk [1, 2, 3, 5, 15] ?_
  refine x_tnsr (vv (v := .bool false) (y_binop rfl rfl rfl (r_seql (by kernel_rfl))) ?_)
  refine va ?_
  refine qk [1, 2, 3, 5, 22] ?_
  refine wQ_then (wC_cond_f rfl (wC_seq (wC_seq (wC_region (vv (v := .bool false) (y_binop rfl rfl rfl (r_seql (by kernel_rfl))) ?_)))))
  refine va ?_
  refine qk [1, 2, 3, 5, 30] ?_
  refine x_tnsr (vv (v := .bool true) (y_binop rfl rfl rfl (r_seql (by kernel_rfl))) ?_)
  refine va ?_
  refine qk [1, 2, 3, 5, 30] ?_
  refine wQ_then (wC_cond_t rfl (wC_skip (wQ_then (wC_cond_t rfl (wC_seq (wC_region (vv (yfa 3 fa41_3) ?_)))))))
  refine vv (ylc 0 S71 Tryd.underlying3) ?_
  refine wL_new (V := fun b => .slice (some ⟨b, 0, none⟩) 1 1) (row := #[.int .i64 x.at_]) (t := 3) S71 (wn rfl) rfl rfl (d_buildSlice (vs := [(0, .int .i64 x.at_)]) rfl ⟨rfl, rfl, trivial⟩ (by kernel_rfl)) ?_; intro b73 w74 S75; clear S71
  refine wL_new (V := fun b => .slice (some ⟨b, 0, none⟩) 1 1) (row := #[.int .i64 1048576]) (t := 3) S75 (wn rfl) rfl rfl (d_buildSlice (vs := [(0, .int .i64 1048576)]) rfl ⟨rfl, rfl, trivial⟩ (by kernel_rfl)) ?_; intro b76 w77 S78; clear S75
  iterate 2 refine va ?_
  refine qk [2, 3] ?_
  refine x_tech (wQ_post (rs := [.tmp 2, .tmp 3]) (vs := [.slice (some ⟨b73, 0, none⟩) 1 1, .slice (some ⟨b76, 0, none⟩) 1 1]) rfl ⟨rfl, rfl, trivial⟩ ?_)
  have S79 : St _ _ _ [_, _] := S78.dels [2]; clear S78
  have S80 : St w.heap.size w w77 [_, _] := S79.re [1, 0] (by decide); clear S79
  have S9 := St.blkRdo (s := 1) (n := 1) (xs := [.int .i64 x.at_]) 0 S80 rfl rfl rfl
  have S10 := St.blkRdo (s := 1) (n := 1) (xs := [.int .i64 1048576]) 1 S9 rfl rfl rfl
  exact ⟨_, _, rfl, S10⟩
 ·have hl := hf
  simp [formL, hk] at hl
  subst hl
  have HW := fun w => ActWord_calls x w
  rw [show wordOf x.kd x.ek = ⟨#[100, 111, 117, 98, 108, 101]⟩ from by simp [wordOf, hk]] at HW
  refine wC_region (vv (ylr 0 S3 Tryd.underlying41 inf41) ?_)
  refine cab en23 S3 (HW _) ?_; intro w81 S82; clear S3
  refine qk [1, 2, 3, 5] ?_
  refine wQ_then (wC_block (wC_seq (wC_seq (wC_region (vv (v := .bool false) (y_binop rfl rfl rfl (r_seql (by kernel_rfl))) ?_)))))
  refine va ?_
  refine qk [1, 2, 3, 5, 6] ?_
  refine wQ_then (wC_cond_f rfl (wC_region (vv (v := .bool false) (y_binop rfl rfl rfl (r_seql (by kernel_rfl))) ?_)))
  refine va ?_
  refine qk [1, 2, 3, 5, 6] ?_
  refine wQ_then (wC_cond_f rfl (wC_seq (wC_seq (wC_region (vv (v := .bool false) (y_binop rfl rfl rfl (r_seql (by kernel_rfl))) ?_)))))
  refine va ?_
  refine qk [1, 2, 3, 5, 15] ?_
  refine wQ_then (wC_cond_f rfl (wC_region (vv (v := .bool false) (y_binop rfl rfl rfl (r_seql (by kernel_rfl))) ?_)))
  refine va ?_
  refine qk [1, 2, 3, 5, 15] ?_
  refine x_tnsr (vv (v := .bool false) (y_binop rfl rfl rfl (r_seql (by kernel_rfl))) ?_)
  refine va ?_
  refine qk [1, 2, 3, 5, 22] ?_
  refine wQ_then (wC_cond_f rfl (wC_seq (wC_seq (wC_region (vv (v := .bool false) (y_binop rfl rfl rfl (r_seql (by kernel_rfl))) ?_)))))
  refine va ?_
  refine qk [1, 2, 3, 5, 30] ?_
  refine x_tnsr (vv (v := .bool false) (y_binop rfl rfl rfl (r_seql (by kernel_rfl))) ?_)
  refine va ?_
  refine qk [1, 2, 3, 5, 30] ?_
  refine wQ_then (wC_cond_f rfl (wC_region (vv (v := .bool true) (y_binop rfl rfl rfl (r_seql (by kernel_rfl))) ?_)))
  refine va ?_
  refine qk [1, 2, 3, 5, 30] ?_
  refine x_tysr (vv (yfa 3 fa41_3) ?_)
  refine vv (ylc 0 S82 Tryd.underlying3) ?_
  refine wL_new (V := fun b => .slice (some ⟨b, 0, none⟩) 1 1) (row := #[.int .i64 x.at_]) (t := 3) S82 (wn rfl) rfl rfl (d_buildSlice (vs := [(0, .int .i64 x.at_)]) rfl ⟨rfl, rfl, trivial⟩ (by kernel_rfl)) ?_; intro b84 w85 S86; clear S82
  refine wL_new (V := fun b => .slice (some ⟨b, 0, none⟩) 1 1) (row := #[.int .i64 1048576]) (t := 3) S86 (wn rfl) rfl rfl (d_buildSlice (vs := [(0, .int .i64 1048576)]) rfl ⟨rfl, rfl, trivial⟩ (by kernel_rfl)) ?_; intro b87 w88 S89; clear S86
  iterate 2 refine va ?_
  refine qk [2, 3] ?_
  refine x_tech (wQ_post (rs := [.tmp 2, .tmp 3]) (vs := [.slice (some ⟨b84, 0, none⟩) 1 1, .slice (some ⟨b87, 0, none⟩) 1 1]) rfl ⟨rfl, rfl, trivial⟩ ?_)
  have S90 : St _ _ _ [_, _] := S89.dels [2]; clear S89
  have S91 : St w.heap.size w w88 [_, _] := S90.re [1, 0] (by decide); clear S90
  have S9 := St.blkRdo (s := 1) (n := 1) (xs := [.int .i64 x.at_]) 0 S91 rfl rfl rfl
  have S10 := St.blkRdo (s := 1) (n := 1) (xs := [.int .i64 1048576]) 1 S9 rfl rfl rfl
  exact ⟨_, _, rfl, S10⟩
 ·have hl := hf
  simp [formL, hk] at hl
  subst hl
  have HW := fun w => ActWord_calls x w
  rw [show wordOf x.kd x.ek = ⟨#[97, 108, 108]⟩ from by simp [wordOf, hk]] at HW
  refine wC_region (vv (ylr 0 S3 Tryd.underlying41 inf41) ?_)
  refine cab en23 S3 (HW _) ?_; intro w92 S93; clear S3
  refine qk [1, 2, 3, 5] ?_
  refine wQ_then (wC_block (wC_seq (wC_seq (wC_region (vv (v := .bool false) (y_binop rfl rfl rfl (r_seql (by kernel_rfl))) ?_)))))
  refine va ?_
  refine qk [1, 2, 3, 5, 6] ?_
  refine wQ_then (wC_cond_f rfl (wC_region (vv (v := .bool false) (y_binop rfl rfl rfl (r_seql (by kernel_rfl))) ?_)))
  refine va ?_
  refine qk [1, 2, 3, 5, 6] ?_
  refine wQ_then (wC_cond_f rfl (wC_seq (wC_seq (wC_region (vv (v := .bool false) (y_binop rfl rfl rfl (r_seql (by kernel_rfl))) ?_)))))
  refine va ?_
  refine qk [1, 2, 3, 5, 15] ?_
  refine wQ_then (wC_cond_f rfl (wC_region (vv (v := .bool false) (y_binop rfl rfl rfl (r_seql (by kernel_rfl))) ?_)))
  refine va ?_
  refine qk [1, 2, 3, 5, 15] ?_
  refine x_tnsr (vv (v := .bool false) (y_binop rfl rfl rfl (r_seql (by kernel_rfl))) ?_)
  refine va ?_
  refine qk [1, 2, 3, 5, 22] ?_
  refine wQ_then (wC_cond_f rfl (wC_seq (wC_seq (wC_region (vv (v := .bool false) (y_binop rfl rfl rfl (r_seql (by kernel_rfl))) ?_)))))
  refine va ?_
  refine qk [1, 2, 3, 5, 30] ?_
  refine x_tnsr (vv (v := .bool false) (y_binop rfl rfl rfl (r_seql (by kernel_rfl))) ?_)
  refine va ?_
  refine qk [1, 2, 3, 5, 30] ?_
  refine wQ_then (wC_cond_f rfl (wC_region (vv (v := .bool false) (y_binop rfl rfl rfl (r_seql (by kernel_rfl))) ?_)))
  refine va ?_
  refine qk [1, 2, 3, 5, 30] ?_
  refine x_tnsr (vv (v := .bool false) (y_binop rfl rfl rfl (r_seql (by kernel_rfl))) ?_)
  refine va ?_
  refine qk [1, 2, 3, 5, 38] ?_
  refine x_tnsr (vv (v := .bool false) (y_binop rfl rfl rfl (r_seql (by kernel_rfl))) ?_)
  refine va ?_
  refine qk [1, 2, 3, 5, 55] ?_
  refine x_tnsr (vv (v := .bool false) (y_binop rfl rfl rfl (r_seql (by kernel_rfl))) ?_)
  refine va ?_
  refine qk [1, 2, 3, 63] ?_
  refine wQ_then (wC_cond_f rfl (wC_skip (wQ_blk_n (wQ_then (wC_seq (wC_region (va ?_)))))))
  refine va ?_
  refine qk [2, 3] ?_
  refine x_te (wQ_post (rs := [.tmp 2, .tmp 3]) (vs := [.slice none 0 0, .slice none 0 0]) rfl ⟨rfl, rfl, trivial⟩ ?_)
  have S95 : St _ _ _ [] := S93.dels [0]; clear S93
  exact ⟨none, none, rfl, rdo_nil (rdo_nil S95)⟩
 ·have hl := hf
  simp [formL, hk, hek] at hl
  subst hl
  have HW := fun w => ActWord_calls x w
  rw [show wordOf x.kd x.ek = ⟨#[112, 117, 98, 108, 105, 115, 104]⟩ from by simp [wordOf, hk, hek]] at HW
  refine wC_region (vv (ylr 0 S3 Tryd.underlying41 inf41) ?_)
  refine cab en23 S3 (HW _) ?_; intro w96 S97; clear S3
  refine qk [1, 2, 3, 5] ?_
  refine wQ_then (wC_block (wC_seq (wC_seq (wC_region (vv (v := .bool false) (y_binop rfl rfl rfl (r_seql (by kernel_rfl))) ?_)))))
  refine va ?_
  refine qk [1, 2, 3, 5, 6] ?_
  refine wQ_then (wC_cond_f rfl (wC_region (vv (v := .bool false) (y_binop rfl rfl rfl (r_seql (by kernel_rfl))) ?_)))
  refine va ?_
  refine qk [1, 2, 3, 5, 6] ?_
  refine wQ_then (wC_cond_f rfl (wC_seq (wC_seq (wC_region (vv (v := .bool false) (y_binop rfl rfl rfl (r_seql (by kernel_rfl))) ?_)))))
  refine va ?_
  refine qk [1, 2, 3, 5, 15] ?_
  refine wQ_then (wC_cond_f rfl (wC_region (vv (v := .bool false) (y_binop rfl rfl rfl (r_seql (by kernel_rfl))) ?_)))
  refine va ?_
  refine qk [1, 2, 3, 5, 15] ?_
  refine x_tnsr (vv (v := .bool false) (y_binop rfl rfl rfl (r_seql (by kernel_rfl))) ?_)
  refine va ?_
  refine qk [1, 2, 3, 5, 22] ?_
  refine wQ_then (wC_cond_f rfl (wC_seq (wC_seq (wC_region (vv (v := .bool false) (y_binop rfl rfl rfl (r_seql (by kernel_rfl))) ?_)))))
  refine va ?_
  refine qk [1, 2, 3, 5, 30] ?_
  refine x_tnsr (vv (v := .bool false) (y_binop rfl rfl rfl (r_seql (by kernel_rfl))) ?_)
  refine va ?_
  refine qk [1, 2, 3, 5, 30] ?_
  refine wQ_then (wC_cond_f rfl (wC_region (vv (v := .bool false) (y_binop rfl rfl rfl (r_seql (by kernel_rfl))) ?_)))
  refine va ?_
  refine qk [1, 2, 3, 5, 30] ?_
  refine x_tnsr (vv (v := .bool true) (y_binop rfl rfl rfl (r_seql (by kernel_rfl))) ?_)
  refine va ?_
  refine qk [1, 2, 3, 5, 38] ?_
  refine x_tysr (vv (yfa 1 fa41_1) ?_)
  refine vv (ylc 0 S97 Tryd.underlying3) ?_
  refine vv (yfa 2 fa41_2) ?_
  refine vv (ylc 0 S97 Tryd.underlying3) ?_
  refine vv (yfa 5 fa41_5) ?_
  refine vv (yfa 6 fa39_1) ?_
  refine vv (ylc 0 S97 Tryd.underlying3) ?_
  refine vv (yfa 5 fa41_5) ?_
  refine vv (yfa 7 fa39_2) ?_
  refine vv (ylc 0 S97 Tryd.underlying3) ?_
  refine vv (yfa 5 fa41_5) ?_
  refine vv (yfa 8 fa39_3) ?_
  refine vv (ylc 0 S97 Tryd.underlying3) ?_
  refine wL_new (V := fun b => .slice (some ⟨b, 0, none⟩) 5 5) (row := #[.int .i64 x.nd, .int .i64 x.qu, .int .i64 x.ep, .int .i64 x.ei, .int .i64 x.eb]) (t := 3) S97 (wn rfl) rfl rfl (d_buildSlice (vs := [(0, .int .i64 x.nd), (1, .int .i64 x.qu), (2, .int .i64 x.ep), (3, .int .i64 x.ei), (4, .int .i64 x.eb)]) rfl ⟨rfl, rfl, rfl, rfl, rfl, rfl, rfl, rfl, rfl, rfl, trivial⟩ (by kernel_rfl)) ?_; intro b99 w100 S101; clear S97
  refine wL_new (V := fun b => .slice (some ⟨b, 0, none⟩) 5 5) (row := #[.int .i64 4, .int .i64 3, .int .i64 3, .int .i64 1073741824, .int .i64 1000000]) (t := 3) S101 (wn rfl) rfl rfl (d_buildSlice (vs := [(0, .int .i64 4), (1, .int .i64 3), (2, .int .i64 3), (3, .int .i64 1073741824), (4, .int .i64 1000000)]) rfl ⟨rfl, rfl, rfl, rfl, rfl, rfl, rfl, rfl, rfl, rfl, trivial⟩ (by kernel_rfl)) ?_; intro b102 w103 S104; clear S101
  iterate 2 refine va ?_
  refine qk [2, 3] ?_
  refine x_tech (wQ_post (rs := [.tmp 2, .tmp 3]) (vs := [.slice (some ⟨b99, 0, none⟩) 5 5, .slice (some ⟨b102, 0, none⟩) 5 5]) rfl ⟨rfl, rfl, trivial⟩ ?_)
  have S105 : St _ _ _ [_, _] := S104.dels [2]; clear S104
  have S106 : St w.heap.size w w103 [_, _] := S105.re [1, 0] (by decide); clear S105
  have S9 := St.blkRdo (s := 1) (n := 5) (xs := [.int .i64 x.nd, .int .i64 x.qu, .int .i64 x.ep, .int .i64 x.ei, .int .i64 x.eb]) 0 S106 rfl rfl rfl
  have S10 := St.blkRdo (s := 1) (n := 5) (xs := [.int .i64 4, .int .i64 3, .int .i64 3, .int .i64 1073741824, .int .i64 1000000]) 1 S9 rfl rfl rfl
  exact ⟨_, _, rfl, S10⟩
 ·have hl := hf
  simp [formL, hk, hek] at hl
  subst hl
  have HW := fun w => ActWord_calls x w
  rw [show wordOf x.kd x.ek = ⟨#[114, 101, 99, 101, 105, 118, 101]⟩ from by simp [wordOf, hk, hek]] at HW
  refine wC_region (vv (ylr 0 S3 Tryd.underlying41 inf41) ?_)
  refine cab en23 S3 (HW _) ?_; intro w107 S108; clear S3
  refine qk [1, 2, 3, 5] ?_
  refine wQ_then (wC_block (wC_seq (wC_seq (wC_region (vv (v := .bool false) (y_binop rfl rfl rfl (r_seql (by kernel_rfl))) ?_)))))
  refine va ?_
  refine qk [1, 2, 3, 5, 6] ?_
  refine wQ_then (wC_cond_f rfl (wC_region (vv (v := .bool false) (y_binop rfl rfl rfl (r_seql (by kernel_rfl))) ?_)))
  refine va ?_
  refine qk [1, 2, 3, 5, 6] ?_
  refine wQ_then (wC_cond_f rfl (wC_seq (wC_seq (wC_region (vv (v := .bool false) (y_binop rfl rfl rfl (r_seql (by kernel_rfl))) ?_)))))
  refine va ?_
  refine qk [1, 2, 3, 5, 15] ?_
  refine wQ_then (wC_cond_f rfl (wC_region (vv (v := .bool false) (y_binop rfl rfl rfl (r_seql (by kernel_rfl))) ?_)))
  refine va ?_
  refine qk [1, 2, 3, 5, 15] ?_
  refine x_tnsr (vv (v := .bool false) (y_binop rfl rfl rfl (r_seql (by kernel_rfl))) ?_)
  refine va ?_
  refine qk [1, 2, 3, 5, 22] ?_
  refine wQ_then (wC_cond_f rfl (wC_seq (wC_seq (wC_region (vv (v := .bool false) (y_binop rfl rfl rfl (r_seql (by kernel_rfl))) ?_)))))
  refine va ?_
  refine qk [1, 2, 3, 5, 30] ?_
  refine x_tnsr (vv (v := .bool false) (y_binop rfl rfl rfl (r_seql (by kernel_rfl))) ?_)
  refine va ?_
  refine qk [1, 2, 3, 5, 30] ?_
  refine wQ_then (wC_cond_f rfl (wC_region (vv (v := .bool false) (y_binop rfl rfl rfl (r_seql (by kernel_rfl))) ?_)))
  refine va ?_
  refine qk [1, 2, 3, 5, 30] ?_
  refine x_tnsr (vv (v := .bool false) (y_binop rfl rfl rfl (r_seql (by kernel_rfl))) ?_)
  refine va ?_
  refine qk [1, 2, 3, 5, 38] ?_
  refine x_tnsr (vv (v := .bool true) (y_binop rfl rfl rfl (r_seql (by kernel_rfl))) ?_)
  refine va ?_
  refine qk [1, 2, 3, 5, 55] ?_
  refine x_tysr (vv (yfa 1 fa41_1) ?_)
  refine vv (ylc 0 S108 Tryd.underlying3) ?_
  refine vv (yfa 2 fa41_2) ?_
  refine vv (ylc 0 S108 Tryd.underlying3) ?_
  refine wL_new (V := fun b => .slice (some ⟨b, 0, none⟩) 2 2) (row := #[.int .i64 x.nd, .int .i64 x.qu]) (t := 3) S108 (wn rfl) rfl rfl (d_buildSlice (vs := [(0, .int .i64 x.nd), (1, .int .i64 x.qu)]) rfl ⟨rfl, rfl, rfl, rfl, trivial⟩ (by kernel_rfl)) ?_; intro b110 w111 S112; clear S108
  refine wL_new (V := fun b => .slice (some ⟨b, 0, none⟩) 2 2) (row := #[.int .i64 4, .int .i64 3]) (t := 3) S112 (wn rfl) rfl rfl (d_buildSlice (vs := [(0, .int .i64 4), (1, .int .i64 3)]) rfl ⟨rfl, rfl, rfl, rfl, trivial⟩ (by kernel_rfl)) ?_; intro b113 w114 S115; clear S112
  iterate 2 refine va ?_
  refine qk [2, 3] ?_
  refine x_tech (wQ_post (rs := [.tmp 2, .tmp 3]) (vs := [.slice (some ⟨b110, 0, none⟩) 2 2, .slice (some ⟨b113, 0, none⟩) 2 2]) rfl ⟨rfl, rfl, trivial⟩ ?_)
  have S116 : St _ _ _ [_, _] := S115.dels [2]; clear S115
  have S117 : St w.heap.size w w114 [_, _] := S116.re [1, 0] (by decide); clear S116
  have S9 := St.blkRdo (s := 1) (n := 2) (xs := [.int .i64 x.nd, .int .i64 x.qu]) 0 S117 rfl rfl rfl
  have S10 := St.blkRdo (s := 1) (n := 2) (xs := [.int .i64 4, .int .i64 3]) 1 S9 rfl rfl rfl
  exact ⟨_, _, rfl, S10⟩
 ·have hl := hf
  simp [formL, hk, hek] at hl
  subst hl
  have HW := fun w => ActWord_calls x w
  rw [show wordOf x.kd x.ek = ⟨#[97, 99, 107]⟩ from by simp [wordOf, hk, hek]] at HW
  refine wC_region (vv (ylr 0 S3 Tryd.underlying41 inf41) ?_)
  refine cab en23 S3 (HW _) ?_; intro w118 S119; clear S3
  refine qk [1, 2, 3, 5] ?_
  refine wQ_then (wC_block (wC_seq (wC_seq (wC_region (vv (v := .bool false) (y_binop rfl rfl rfl (r_seql (by kernel_rfl))) ?_)))))
  refine va ?_
  refine qk [1, 2, 3, 5, 6] ?_
  refine wQ_then (wC_cond_f rfl (wC_region (vv (v := .bool false) (y_binop rfl rfl rfl (r_seql (by kernel_rfl))) ?_)))
  refine va ?_
  refine qk [1, 2, 3, 5, 6] ?_
  refine wQ_then (wC_cond_f rfl (wC_seq (wC_seq (wC_region (vv (v := .bool false) (y_binop rfl rfl rfl (r_seql (by kernel_rfl))) ?_)))))
  refine va ?_
  refine qk [1, 2, 3, 5, 15] ?_
  refine wQ_then (wC_cond_f rfl (wC_region (vv (v := .bool false) (y_binop rfl rfl rfl (r_seql (by kernel_rfl))) ?_)))
  refine va ?_
  refine qk [1, 2, 3, 5, 15] ?_
  refine x_tnsr (vv (v := .bool false) (y_binop rfl rfl rfl (r_seql (by kernel_rfl))) ?_)
  refine va ?_
  refine qk [1, 2, 3, 5, 22] ?_
  refine wQ_then (wC_cond_f rfl (wC_seq (wC_seq (wC_region (vv (v := .bool false) (y_binop rfl rfl rfl (r_seql (by kernel_rfl))) ?_)))))
  refine va ?_
  refine qk [1, 2, 3, 5, 30] ?_
  refine x_tnsr (vv (v := .bool false) (y_binop rfl rfl rfl (r_seql (by kernel_rfl))) ?_)
  refine va ?_
  refine qk [1, 2, 3, 5, 30] ?_
  refine wQ_then (wC_cond_f rfl (wC_region (vv (v := .bool false) (y_binop rfl rfl rfl (r_seql (by kernel_rfl))) ?_)))
  refine va ?_
  refine qk [1, 2, 3, 5, 30] ?_
  refine x_tnsr (vv (v := .bool false) (y_binop rfl rfl rfl (r_seql (by kernel_rfl))) ?_)
  refine va ?_
  refine qk [1, 2, 3, 5, 38] ?_
  refine x_tnsr (vv (v := .bool false) (y_binop rfl rfl rfl (r_seql (by kernel_rfl))) ?_)
  refine va ?_
  refine qk [1, 2, 3, 5, 55] ?_
  refine x_tnsr (vv (v := .bool true) (y_binop rfl rfl rfl (r_seql (by kernel_rfl))) ?_)
  refine va ?_
  refine qk [1, 2, 3, 63] ?_
  refine x_tysr (vv (yfa 1 fa41_1) ?_)
  refine vv (ylc 0 S119 Tryd.underlying3) ?_
  refine vv (yfa 2 fa41_2) ?_
  refine vv (ylc 0 S119 Tryd.underlying3) ?_
  refine vv (yfa 5 fa41_5) ?_
  refine vv (yfa 9 fa39_4) ?_
  refine vv (yfa 9 fa37_0) ?_
  refine vv (ylc 0 S119 Tryd.underlying3) ?_
  refine vv (yfa 5 fa41_5) ?_
  refine vv (yfa 9 fa39_4) ?_
  refine vv (yfa 10 fa37_1) ?_
  refine vv (ylc 0 S119 Tryd.underlying3) ?_
  refine wL_new (V := fun b => .slice (some ⟨b, 0, none⟩) 4 4) (row := #[.int .i64 x.nd, .int .i64 x.qu, .int .i64 x.eh, .int .i64 x.en]) (t := 3) S119 (wn rfl) rfl rfl (d_buildSlice (vs := [(0, .int .i64 x.nd), (1, .int .i64 x.qu), (2, .int .i64 x.eh), (3, .int .i64 x.en)]) rfl ⟨rfl, rfl, rfl, rfl, rfl, rfl, rfl, rfl, trivial⟩ (by kernel_rfl)) ?_; intro b121 w122 S123; clear S119
  refine wL_new (V := fun b => .slice (some ⟨b, 0, none⟩) 4 4) (row := #[.int .i64 4, .int .i64 3, .int .i64 1048576, .int .i64 1073741824]) (t := 3) S123 (wn rfl) rfl rfl (d_buildSlice (vs := [(0, .int .i64 4), (1, .int .i64 3), (2, .int .i64 1048576), (3, .int .i64 1073741824)]) rfl ⟨rfl, rfl, rfl, rfl, rfl, rfl, rfl, rfl, trivial⟩ (by kernel_rfl)) ?_; intro b124 w125 S126; clear S123
  iterate 2 refine va ?_
  refine qk [2, 3] ?_
  refine x_tech (wQ_post (rs := [.tmp 2, .tmp 3]) (vs := [.slice (some ⟨b121, 0, none⟩) 4 4, .slice (some ⟨b124, 0, none⟩) 4 4]) rfl ⟨rfl, rfl, trivial⟩ ?_)
  have S127 : St _ _ _ [_, _] := S126.dels [2]; clear S126
  have S128 : St w.heap.size w w125 [_, _] := S127.re [1, 0] (by decide); clear S127
  have S9 := St.blkRdo (s := 1) (n := 4) (xs := [.int .i64 x.nd, .int .i64 x.qu, .int .i64 x.eh, .int .i64 x.en]) 0 S128 rfl rfl rfl
  have S10 := St.blkRdo (s := 1) (n := 4) (xs := [.int .i64 4, .int .i64 3, .int .i64 1048576, .int .i64 1073741824]) 1 S9 rfl rfl rfl
  exact ⟨_, _, rfl, S10⟩
 ·rw [hn] at hf; cases hf
end Go.Proofs.YtkjlafpafmihaaaDoor

namespace Go.Proofs.YtkjlafpafmihaaaDoor
open Go.ChangeShapes Go.WideShapes Go.RowKit

set_option maxRecDepth 100000 in
set_option maxHeartbeats 8000000 in
theorem actOf_calls (x : Ac) (l : List (Nat × Int)) (hf : formL x.kd x.ek = some l) (A : Option Addr) (c : Nat) (w : World) (h : Rd w w.heap.size 1 A l.length (l.flatMap (valC x))) :
    Calls Tryd.prog 26 #[.agg #[.int .i64 x.kd, .int .i64 x.nd, .int .i64 x.qu, .int .i64 x.at_, .int .i64 x.kp, .int .i64 x.ek, .int .i64 x.ep, .int .i64 x.ei, .int .i64 x.eb, .int .i64 x.eh, .int .i64 x.en], .slice A l.length c] w (AcPost w (keep x)) := by
 have S := (St.start w).addRd h; clear h
 refine fnw 99 Tryd.func26 ?_
 refine cw [0, 1] ?_
 refine x_sr (nb (row := #[.int .i64 x.kd, .int .i64 x.nd, .int .i64 x.qu, .int .i64 x.at_, .int .i64 x.kp, .int .i64 x.ek, .int .i64 x.ep, .int .i64 x.ei, .int .i64 x.eb, .int .i64 x.eh, .int .i64 x.en]) S ?_); intro b1 w2 S3; clear S
 refine na (row := #[.int .i64 0, .int .i64 0, .int .i64 0, .int .i64 0, .int .i64 0, .int .i64 0, .int .i64 0, .int .i64 0, .int .i64 0, .int .i64 0, .int .i64 0]) S3 Tryd.zeroValue41 ?_; intro b4 w5 S6; clear S3
 refine qk [1, 2, 4] ?_
 refine x_tsr (vv (yfa 0 fa41_0) ?_)
 refine vv (ylc 1 S6 Tryd.underlying3) ?_
 refine vv (yfa 5 fa41_5) ?_
 refine vv (yfa 5 fa39_0) ?_
 refine vv (ylc 1 S6 Tryd.underlying3) ?_
 refine vv (v := .agg #[.int .i64 x.ek, .int .i64 0, .int .i64 0, .int .i64 0, .int .i64 0, .int .i64 0]) (y_build (vs := [(0, .int .i64 x.ek)]) rfl ⟨rfl, rfl, trivial⟩ (by kernel_rfl)) ?_
 refine vv (v := .agg #[.int .i64 x.kd, .int .i64 0, .int .i64 0, .int .i64 0, .int .i64 0, .int .i64 x.ek, .int .i64 0, .int .i64 0, .int .i64 0, .int .i64 0, .int .i64 0]) (y_build (vs := [(0, .int .i64 x.kd), (5, .agg #[.int .i64 x.ek, .int .i64 0, .int .i64 0, .int .i64 0, .int .i64 0, .int .i64 0])]) rfl ⟨rfl, rfl, rfl, rfl, trivial⟩ (by kernel_rfl)) ?_
 refine na (row := #[.int .i64 0, .int .i64 0, .int .i64 0, .int .i64 0, .int .i64 0, .int .i64 0, .int .i64 0, .int .i64 0, .int .i64 0, .int .i64 0, .int .i64 0]) S6 Tryd.zeroValue41 ?_; intro b7 w8 S9; clear S6
 refine sa 0 S9 inf41 ?_; intro w10 S11; clear S9
 refine qk [1, 2, 4, 5] ?_
 refine wQ_then (wC_seq (wC_seq ?_))
 rcases kinds x.kd x.ek with hk | hk | hk | hk | hk | hk | hk | hk | hk | ⟨hk, hek⟩ | ⟨hk, hek⟩ | ⟨hk, hek⟩ | hn
 ·have hl := hf
  simp [formL, hk] at hl
  subst hl
  have HW := fun w => ActWord_calls x w
  rw [show wordOf x.kd x.ek = ⟨#[109, 97, 107, 101]⟩ from by simp [wordOf, hk]] at HW
  refine wC_region (vv (ylr 2 S11 Tryd.underlying41 inf41) ?_)
  refine cab en23 S11 (HW _) ?_; intro w12 S13; clear S11
  refine qk [1, 2, 4, 5, 14] ?_
  refine wQ_then (wC_block (wC_seq (wC_seq (wC_region (vv (v := .bool true) (y_binop rfl rfl rfl (r_seql (by kernel_rfl))) ?_)))))
  refine va ?_
  refine qk [1, 2, 4, 5, 14, 15] ?_
  refine wQ_then (wC_cond_t rfl (wC_skip (wQ_then (wC_cond_t rfl (wC_seq (wC_region (vm ?_)))))))
  obtain ⟨b15, o16, rfl⟩ := Rd.addr (St.rd 3 S13 rfl) (by decide)
  refine vv (v := .pointer (some ⟨b15, o16 + 0, none⟩)) (y_indexAddr rfl rfl rfl (r_indexAddr 0 Tryd.underlying62 inf3 rfl (by decide))) ?_
  refine vv (v := .int .i64 x.qu) (y_load rfl rfl (r_load Tryd.underlying3 rfl (Rd.cl (j := 0) (St.rd 3 S13 rfl) rfl))) ?_
  refine vv (yfa 2 fa41_2) ?_
  refine sr (row' := #[.int .i64 x.kd, .int .i64 0, .int .i64 x.qu, .int .i64 0, .int .i64 0, .int .i64 x.ek, .int .i64 0, .int .i64 0, .int .i64 0, .int .i64 0, .int .i64 0]) 0 S13 inf3 ?_; intro w17 S18; clear S13
  refine qk [1, 2, 4, 5] ?_
  refine x_tr (vm ?_)
  refine vv (v := .pointer (some ⟨b15, o16 + 1, none⟩)) (y_indexAddr rfl rfl rfl (r_indexAddr 1 Tryd.underlying62 inf3 rfl (by decide))) ?_
  refine vv (v := .int .i64 x.nd) (y_load rfl rfl (r_load Tryd.underlying3 rfl (Rd.cl (j := 1) (St.rd 3 S18 rfl) rfl))) ?_
  refine vv (yfa 1 fa41_1) ?_
  refine sr (row' := #[.int .i64 x.kd, .int .i64 x.nd, .int .i64 x.qu, .int .i64 0, .int .i64 0, .int .i64 x.ek, .int .i64 0, .int .i64 0, .int .i64 0, .int .i64 0, .int .i64 0]) 0 S18 inf3 ?_; intro w19 S20; clear S18
  refine qk [1, 2, 4, 5] ?_
  refine x_utssr (vv (ylr 2 S20 Tryd.underlying41 inf41) ?_)
  refine cab en23 S20 (HW _) ?_; intro w21 S22; clear S20
  refine vv (v := .bool false) (y_binop rfl rfl rfl (r_seql (by kernel_rfl))) ?_
  refine qk [1, 2, 4, 5, 65] ?_
  refine x_tnktssr (vv (ylr 2 S22 Tryd.underlying41 inf41) ?_)
  refine cab en23 S22 (HW _) ?_; intro w24 S25; clear S22
  refine vv (v := .bool false) (y_binop rfl rfl rfl (r_seql (by kernel_rfl))) ?_
  refine qk [1, 4, 5, 83] ?_
  refine x_tnktssr (vv (yfa 0 fa41_0) ?_)
  refine vv (ylc 0 S25 Tryd.underlying3) ?_
  refine vv (dneqT (h := by omega)) ?_
  refine qk [4, 5, 95] ?_
  refine wQ_then (wC_cond_t rfl (wC_region (vv (yfa 5 fa41_5) ?_)))
  refine vv (yfa 5 fa39_0) ?_
  refine sr (row' := #[.int .i64 x.kd, .int .i64 x.nd, .int .i64 x.qu, .int .i64 0, .int .i64 0, .int .i64 0, .int .i64 0, .int .i64 0, .int .i64 0, .int .i64 0, .int .i64 0]) 0 S25 inf3 ?_; intro w27 S28; clear S25
  refine qk [4, 5] ?_
  refine x_tsr (vv (ylr 0 S28 Tryd.underlying41 inf41) ?_)
  refine sa 1 S28 inf41 ?_; intro w29 S30; clear S28
  refine qk [4] ?_
  refine x_te (wQ_post (rs := [.cell 4 41]) (vs := [.agg #[.int .i64 x.kd, .int .i64 x.nd, .int .i64 x.qu, .int .i64 0, .int .i64 0, .int .i64 0, .int .i64 0, .int .i64 0, .int .i64 0, .int .i64 0, .int .i64 0]]) rfl ⟨⟨_, rfl, res_row 1 S30 rfl Tryd.underlying41 rfl inf41⟩, trivial⟩ ?_)
  rw [show keep x = ⟨x.kd, x.nd, x.qu, 0, 0, 0, 0, 0, 0, 0, 0⟩ from by simp [keep, hk]]
  exact ⟨rfl, S30.low⟩
 ·have hl := hf
  simp [formL, hk] at hl
  subst hl
  have HW := fun w => ActWord_calls x w
  rw [show wordOf x.kd x.ek = ⟨#[109, 111, 118, 101]⟩ from by simp [wordOf, hk]] at HW
  refine wC_region (vv (ylr 2 S11 Tryd.underlying41 inf41) ?_)
  refine cab en23 S11 (HW _) ?_; intro w31 S32; clear S11
  refine qk [1, 2, 4, 5, 14] ?_
  refine wQ_then (wC_block (wC_seq (wC_seq (wC_region (vv (v := .bool false) (y_binop rfl rfl rfl (r_seql (by kernel_rfl))) ?_)))))
  refine va ?_
  refine qk [1, 2, 4, 5, 14, 15] ?_
  refine wQ_then (wC_cond_f rfl (wC_region (vv (v := .bool true) (y_binop rfl rfl rfl (r_seql (by kernel_rfl))) ?_)))
  refine va ?_
  refine qk [1, 2, 4, 5, 14, 15] ?_
  refine x_tysr (vm ?_)
  obtain ⟨b34, o35, rfl⟩ := Rd.addr (St.rd 3 S32 rfl) (by decide)
  refine vv (v := .pointer (some ⟨b34, o35 + 0, none⟩)) (y_indexAddr rfl rfl rfl (r_indexAddr 0 Tryd.underlying62 inf3 rfl (by decide))) ?_
  refine vv (v := .int .i64 x.qu) (y_load rfl rfl (r_load Tryd.underlying3 rfl (Rd.cl (j := 0) (St.rd 3 S32 rfl) rfl))) ?_
  refine vv (yfa 2 fa41_2) ?_
  refine sr (row' := #[.int .i64 x.kd, .int .i64 0, .int .i64 x.qu, .int .i64 0, .int .i64 0, .int .i64 x.ek, .int .i64 0, .int .i64 0, .int .i64 0, .int .i64 0, .int .i64 0]) 0 S32 inf3 ?_; intro w36 S37; clear S32
  refine qk [1, 2, 4, 5] ?_
  refine x_tr (vm ?_)
  refine vv (v := .pointer (some ⟨b34, o35 + 1, none⟩)) (y_indexAddr rfl rfl rfl (r_indexAddr 1 Tryd.underlying62 inf3 rfl (by decide))) ?_
  refine vv (v := .int .i64 x.nd) (y_load rfl rfl (r_load Tryd.underlying3 rfl (Rd.cl (j := 1) (St.rd 3 S37 rfl) rfl))) ?_
  refine vv (yfa 1 fa41_1) ?_
  refine sr (row' := #[.int .i64 x.kd, .int .i64 x.nd, .int .i64 x.qu, .int .i64 0, .int .i64 0, .int .i64 x.ek, .int .i64 0, .int .i64 0, .int .i64 0, .int .i64 0, .int .i64 0]) 0 S37 inf3 ?_; intro w38 S39; clear S37
  refine qk [1, 2, 4, 5] ?_
  refine x_utssr (vv (ylr 2 S39 Tryd.underlying41 inf41) ?_)
  refine cab en23 S39 (HW _) ?_; intro w40 S41; clear S39
  refine vv (v := .bool false) (y_binop rfl rfl rfl (r_seql (by kernel_rfl))) ?_
  refine qk [1, 2, 4, 5, 65] ?_
  refine x_tnktssr (vv (ylr 2 S41 Tryd.underlying41 inf41) ?_)
  refine cab en23 S41 (HW _) ?_; intro w43 S44; clear S41
  refine vv (v := .bool false) (y_binop rfl rfl rfl (r_seql (by kernel_rfl))) ?_
  refine qk [1, 4, 5, 83] ?_
  refine x_tnktssr (vv (yfa 0 fa41_0) ?_)
  refine vv (ylc 0 S44 Tryd.underlying3) ?_
  refine vv (dneqT (h := by omega)) ?_
  refine qk [4, 5, 95] ?_
  refine wQ_then (wC_cond_t rfl (wC_region (vv (yfa 5 fa41_5) ?_)))
  refine vv (yfa 5 fa39_0) ?_
  refine sr (row' := #[.int .i64 x.kd, .int .i64 x.nd, .int .i64 x.qu, .int .i64 0, .int .i64 0, .int .i64 0, .int .i64 0, .int .i64 0, .int .i64 0, .int .i64 0, .int .i64 0]) 0 S44 inf3 ?_; intro w46 S47; clear S44
  refine qk [4, 5] ?_
  refine x_tsr (vv (ylr 0 S47 Tryd.underlying41 inf41) ?_)
  refine sa 1 S47 inf41 ?_; intro w48 S49; clear S47
  refine qk [4] ?_
  refine x_te (wQ_post (rs := [.cell 4 41]) (vs := [.agg #[.int .i64 x.kd, .int .i64 x.nd, .int .i64 x.qu, .int .i64 0, .int .i64 0, .int .i64 0, .int .i64 0, .int .i64 0, .int .i64 0, .int .i64 0, .int .i64 0]]) rfl ⟨⟨_, rfl, res_row 1 S49 rfl Tryd.underlying41 rfl inf41⟩, trivial⟩ ?_)
  rw [show keep x = ⟨x.kd, x.nd, x.qu, 0, 0, 0, 0, 0, 0, 0, 0⟩ from by simp [keep, hk]]
  exact ⟨rfl, S49.low⟩
 ·have hl := hf
  simp [formL, hk] at hl
  subst hl
  have HW := fun w => ActWord_calls x w
  rw [show wordOf x.kd x.ek = ⟨#[115, 116, 101, 112]⟩ from by simp [wordOf, hk]] at HW
  refine wC_region (vv (ylr 2 S11 Tryd.underlying41 inf41) ?_)
  refine cab en23 S11 (HW _) ?_; intro w50 S51; clear S11
  refine qk [1, 2, 4, 5, 14] ?_
  refine wQ_then (wC_block (wC_seq (wC_seq (wC_region (vv (v := .bool false) (y_binop rfl rfl rfl (r_seql (by kernel_rfl))) ?_)))))
  refine va ?_
  refine qk [1, 2, 4, 5, 14, 15] ?_
  refine wQ_then (wC_cond_f rfl (wC_region (vv (v := .bool false) (y_binop rfl rfl rfl (r_seql (by kernel_rfl))) ?_)))
  refine va ?_
  refine qk [1, 2, 4, 5, 14, 15] ?_
  refine wQ_then (wC_cond_f rfl (wC_seq (wC_seq (wC_region (vv (v := .bool true) (y_binop rfl rfl rfl (r_seql (by kernel_rfl))) ?_)))))
  refine va ?_
  refine qk [1, 2, 4, 5, 14, 26] ?_
  refine wQ_then (wC_cond_t rfl (wC_skip (wQ_then (wC_cond_t rfl (wC_region (vm ?_))))))
  obtain ⟨b53, o54, rfl⟩ := Rd.addr (St.rd 3 S51 rfl) (by decide)
  refine vv (v := .pointer (some ⟨b53, o54 + 0, none⟩)) (y_indexAddr rfl rfl rfl (r_indexAddr 0 Tryd.underlying62 inf3 rfl (by decide))) ?_
  refine vv (v := .int .i64 x.nd) (y_load rfl rfl (r_load Tryd.underlying3 rfl (Rd.cl (j := 0) (St.rd 3 S51 rfl) rfl))) ?_
  refine vv (yfa 1 fa41_1) ?_
  refine sr (row' := #[.int .i64 x.kd, .int .i64 x.nd, .int .i64 0, .int .i64 0, .int .i64 0, .int .i64 x.ek, .int .i64 0, .int .i64 0, .int .i64 0, .int .i64 0, .int .i64 0]) 0 S51 inf3 ?_; intro w55 S56; clear S51
  refine qk [1, 2, 4, 5] ?_
  refine x_utssr (vv (ylr 2 S56 Tryd.underlying41 inf41) ?_)
  refine cab en23 S56 (HW _) ?_; intro w57 S58; clear S56
  refine vv (v := .bool false) (y_binop rfl rfl rfl (r_seql (by kernel_rfl))) ?_
  refine qk [1, 2, 4, 5, 65] ?_
  refine x_tnktssr (vv (ylr 2 S58 Tryd.underlying41 inf41) ?_)
  refine cab en23 S58 (HW _) ?_; intro w60 S61; clear S58
  refine vv (v := .bool false) (y_binop rfl rfl rfl (r_seql (by kernel_rfl))) ?_
  refine qk [1, 4, 5, 83] ?_
  refine x_tnktssr (vv (yfa 0 fa41_0) ?_)
  refine vv (ylc 0 S61 Tryd.underlying3) ?_
  refine vv (dneqT (h := by omega)) ?_
  refine qk [4, 5, 95] ?_
  refine wQ_then (wC_cond_t rfl (wC_region (vv (yfa 5 fa41_5) ?_)))
  refine vv (yfa 5 fa39_0) ?_
  refine sr (row' := #[.int .i64 x.kd, .int .i64 x.nd, .int .i64 0, .int .i64 0, .int .i64 0, .int .i64 0, .int .i64 0, .int .i64 0, .int .i64 0, .int .i64 0, .int .i64 0]) 0 S61 inf3 ?_; intro w63 S64; clear S61
  refine qk [4, 5] ?_
  refine x_tsr (vv (ylr 0 S64 Tryd.underlying41 inf41) ?_)
  refine sa 1 S64 inf41 ?_; intro w65 S66; clear S64
  refine qk [4] ?_
  refine x_te (wQ_post (rs := [.cell 4 41]) (vs := [.agg #[.int .i64 x.kd, .int .i64 x.nd, .int .i64 0, .int .i64 0, .int .i64 0, .int .i64 0, .int .i64 0, .int .i64 0, .int .i64 0, .int .i64 0, .int .i64 0]]) rfl ⟨⟨_, rfl, res_row 1 S66 rfl Tryd.underlying41 rfl inf41⟩, trivial⟩ ?_)
  rw [show keep x = ⟨x.kd, x.nd, 0, 0, 0, 0, 0, 0, 0, 0, 0⟩ from by simp [keep, hk]]
  exact ⟨rfl, S66.low⟩
 ·have hl := hf
  simp [formL, hk] at hl
  subst hl
  have HW := fun w => ActWord_calls x w
  rw [show wordOf x.kd x.ek = ⟨#[115, 116, 97, 114, 116]⟩ from by simp [wordOf, hk]] at HW
  refine wC_region (vv (ylr 2 S11 Tryd.underlying41 inf41) ?_)
  refine cab en23 S11 (HW _) ?_; intro w67 S68; clear S11
  refine qk [1, 2, 4, 5, 14] ?_
  refine wQ_then (wC_block (wC_seq (wC_seq (wC_region (vv (v := .bool false) (y_binop rfl rfl rfl (r_seql (by kernel_rfl))) ?_)))))
  refine va ?_
  refine qk [1, 2, 4, 5, 14, 15] ?_
  refine wQ_then (wC_cond_f rfl (wC_region (vv (v := .bool false) (y_binop rfl rfl rfl (r_seql (by kernel_rfl))) ?_)))
  refine va ?_
  refine qk [1, 2, 4, 5, 14, 15] ?_
  refine wQ_then (wC_cond_f rfl (wC_seq (wC_seq (wC_region (vv (v := .bool false) (y_binop rfl rfl rfl (r_seql (by kernel_rfl))) ?_)))))
  refine va ?_
  refine qk [1, 2, 4, 5, 14, 26] ?_
  refine wQ_then (wC_cond_f rfl (wC_region (vv (v := .bool true) (y_binop rfl rfl rfl (r_seql (by kernel_rfl))) ?_)))
  refine va ?_
  refine qk [1, 2, 4, 5, 14, 26] ?_
  refine wQ_then (wC_cond_t rfl (wC_region (vm ?_)))
  obtain ⟨b70, o71, rfl⟩ := Rd.addr (St.rd 3 S68 rfl) (by decide)
  refine vv (v := .pointer (some ⟨b70, o71 + 0, none⟩)) (y_indexAddr rfl rfl rfl (r_indexAddr 0 Tryd.underlying62 inf3 rfl (by decide))) ?_
  refine vv (v := .int .i64 x.nd) (y_load rfl rfl (r_load Tryd.underlying3 rfl (Rd.cl (j := 0) (St.rd 3 S68 rfl) rfl))) ?_
  refine vv (yfa 1 fa41_1) ?_
  refine sr (row' := #[.int .i64 x.kd, .int .i64 x.nd, .int .i64 0, .int .i64 0, .int .i64 0, .int .i64 x.ek, .int .i64 0, .int .i64 0, .int .i64 0, .int .i64 0, .int .i64 0]) 0 S68 inf3 ?_; intro w72 S73; clear S68
  refine qk [1, 2, 4, 5] ?_
  refine x_utssr (vv (ylr 2 S73 Tryd.underlying41 inf41) ?_)
  refine cab en23 S73 (HW _) ?_; intro w74 S75; clear S73
  refine vv (v := .bool false) (y_binop rfl rfl rfl (r_seql (by kernel_rfl))) ?_
  refine qk [1, 2, 4, 5, 65] ?_
  refine x_tnktssr (vv (ylr 2 S75 Tryd.underlying41 inf41) ?_)
  refine cab en23 S75 (HW _) ?_; intro w77 S78; clear S75
  refine vv (v := .bool false) (y_binop rfl rfl rfl (r_seql (by kernel_rfl))) ?_
  refine qk [1, 4, 5, 83] ?_
  refine x_tnktssr (vv (yfa 0 fa41_0) ?_)
  refine vv (ylc 0 S78 Tryd.underlying3) ?_
  refine vv (dneqT (h := by omega)) ?_
  refine qk [4, 5, 95] ?_
  refine wQ_then (wC_cond_t rfl (wC_region (vv (yfa 5 fa41_5) ?_)))
  refine vv (yfa 5 fa39_0) ?_
  refine sr (row' := #[.int .i64 x.kd, .int .i64 x.nd, .int .i64 0, .int .i64 0, .int .i64 0, .int .i64 0, .int .i64 0, .int .i64 0, .int .i64 0, .int .i64 0, .int .i64 0]) 0 S78 inf3 ?_; intro w80 S81; clear S78
  refine qk [4, 5] ?_
  refine x_tsr (vv (ylr 0 S81 Tryd.underlying41 inf41) ?_)
  refine sa 1 S81 inf41 ?_; intro w82 S83; clear S81
  refine qk [4] ?_
  refine x_te (wQ_post (rs := [.cell 4 41]) (vs := [.agg #[.int .i64 x.kd, .int .i64 x.nd, .int .i64 0, .int .i64 0, .int .i64 0, .int .i64 0, .int .i64 0, .int .i64 0, .int .i64 0, .int .i64 0, .int .i64 0]]) rfl ⟨⟨_, rfl, res_row 1 S83 rfl Tryd.underlying41 rfl inf41⟩, trivial⟩ ?_)
  rw [show keep x = ⟨x.kd, x.nd, 0, 0, 0, 0, 0, 0, 0, 0, 0⟩ from by simp [keep, hk]]
  exact ⟨rfl, S83.low⟩
 ·have hl := hf
  simp [formL, hk] at hl
  subst hl
  have HW := fun w => ActWord_calls x w
  rw [show wordOf x.kd x.ek = ⟨#[99, 114, 97, 115, 104]⟩ from by simp [wordOf, hk]] at HW
  refine wC_region (vv (ylr 2 S11 Tryd.underlying41 inf41) ?_)
  refine cab en23 S11 (HW _) ?_; intro w84 S85; clear S11
  refine qk [1, 2, 4, 5, 14] ?_
  refine wQ_then (wC_block (wC_seq (wC_seq (wC_region (vv (v := .bool false) (y_binop rfl rfl rfl (r_seql (by kernel_rfl))) ?_)))))
  refine va ?_
  refine qk [1, 2, 4, 5, 14, 15] ?_
  refine wQ_then (wC_cond_f rfl (wC_region (vv (v := .bool false) (y_binop rfl rfl rfl (r_seql (by kernel_rfl))) ?_)))
  refine va ?_
  refine qk [1, 2, 4, 5, 14, 15] ?_
  refine wQ_then (wC_cond_f rfl (wC_seq (wC_seq (wC_region (vv (v := .bool false) (y_binop rfl rfl rfl (r_seql (by kernel_rfl))) ?_)))))
  refine va ?_
  refine qk [1, 2, 4, 5, 14, 26] ?_
  refine wQ_then (wC_cond_f rfl (wC_region (vv (v := .bool false) (y_binop rfl rfl rfl (r_seql (by kernel_rfl))) ?_)))
  refine va ?_
  refine qk [1, 2, 4, 5, 14, 26] ?_
  refine x_tnsr (vv (v := .bool true) (y_binop rfl rfl rfl (r_seql (by kernel_rfl))) ?_)
  refine va ?_
  refine qk [1, 2, 4, 5, 14, 33] ?_
  refine x_tysr (vm ?_)
  obtain ⟨b87, o88, rfl⟩ := Rd.addr (St.rd 3 S85 rfl) (by decide)
  refine vv (v := .pointer (some ⟨b87, o88 + 0, none⟩)) (y_indexAddr rfl rfl rfl (r_indexAddr 0 Tryd.underlying62 inf3 rfl (by decide))) ?_
  refine vv (v := .int .i64 x.nd) (y_load rfl rfl (r_load Tryd.underlying3 rfl (Rd.cl (j := 0) (St.rd 3 S85 rfl) rfl))) ?_
  refine vv (yfa 1 fa41_1) ?_
  refine sr (row' := #[.int .i64 x.kd, .int .i64 x.nd, .int .i64 0, .int .i64 0, .int .i64 0, .int .i64 x.ek, .int .i64 0, .int .i64 0, .int .i64 0, .int .i64 0, .int .i64 0]) 0 S85 inf3 ?_; intro w89 S90; clear S85
  refine qk [1, 2, 4, 5] ?_
  refine x_tr (vm ?_)
  refine vv (v := .pointer (some ⟨b87, o88 + 1, none⟩)) (y_indexAddr rfl rfl rfl (r_indexAddr 1 Tryd.underlying62 inf3 rfl (by decide))) ?_
  refine vv (v := .int .i64 x.kp) (y_load rfl rfl (r_load Tryd.underlying3 rfl (Rd.cl (j := 1) (St.rd 3 S90 rfl) rfl))) ?_
  refine vv (yfa 4 fa41_4) ?_
  refine sr (row' := #[.int .i64 x.kd, .int .i64 x.nd, .int .i64 0, .int .i64 0, .int .i64 x.kp, .int .i64 x.ek, .int .i64 0, .int .i64 0, .int .i64 0, .int .i64 0, .int .i64 0]) 0 S90 inf3 ?_; intro w91 S92; clear S90
  refine qk [1, 2, 4, 5] ?_
  refine x_utssr (vv (ylr 2 S92 Tryd.underlying41 inf41) ?_)
  refine cab en23 S92 (HW _) ?_; intro w93 S94; clear S92
  refine vv (v := .bool false) (y_binop rfl rfl rfl (r_seql (by kernel_rfl))) ?_
  refine qk [1, 2, 4, 5, 65] ?_
  refine x_tnktssr (vv (ylr 2 S94 Tryd.underlying41 inf41) ?_)
  refine cab en23 S94 (HW _) ?_; intro w96 S97; clear S94
  refine vv (v := .bool false) (y_binop rfl rfl rfl (r_seql (by kernel_rfl))) ?_
  refine qk [1, 4, 5, 83] ?_
  refine x_tnktssr (vv (yfa 0 fa41_0) ?_)
  refine vv (ylc 0 S97 Tryd.underlying3) ?_
  refine vv (dneqT (h := by omega)) ?_
  refine qk [4, 5, 95] ?_
  refine wQ_then (wC_cond_t rfl (wC_region (vv (yfa 5 fa41_5) ?_)))
  refine vv (yfa 5 fa39_0) ?_
  refine sr (row' := #[.int .i64 x.kd, .int .i64 x.nd, .int .i64 0, .int .i64 0, .int .i64 x.kp, .int .i64 0, .int .i64 0, .int .i64 0, .int .i64 0, .int .i64 0, .int .i64 0]) 0 S97 inf3 ?_; intro w99 S100; clear S97
  refine qk [4, 5] ?_
  refine x_tsr (vv (ylr 0 S100 Tryd.underlying41 inf41) ?_)
  refine sa 1 S100 inf41 ?_; intro w101 S102; clear S100
  refine qk [4] ?_
  refine x_te (wQ_post (rs := [.cell 4 41]) (vs := [.agg #[.int .i64 x.kd, .int .i64 x.nd, .int .i64 0, .int .i64 0, .int .i64 x.kp, .int .i64 0, .int .i64 0, .int .i64 0, .int .i64 0, .int .i64 0, .int .i64 0]]) rfl ⟨⟨_, rfl, res_row 1 S102 rfl Tryd.underlying41 rfl inf41⟩, trivial⟩ ?_)
  rw [show keep x = ⟨x.kd, x.nd, 0, 0, x.kp, 0, 0, 0, 0, 0, 0⟩ from by simp [keep, hk]]
  exact ⟨rfl, S102.low⟩
 ·have hl := hf
  simp [formL, hk] at hl
  subst hl
  have HW := fun w => ActWord_calls x w
  rw [show wordOf x.kd x.ek = ⟨#[99, 97, 114, 114, 121]⟩ from by simp [wordOf, hk]] at HW
  refine wC_region (vv (ylr 2 S11 Tryd.underlying41 inf41) ?_)
  refine cab en23 S11 (HW _) ?_; intro w103 S104; clear S11
  refine qk [1, 2, 4, 5, 14] ?_
  refine wQ_then (wC_block (wC_seq (wC_seq (wC_region (vv (v := .bool false) (y_binop rfl rfl rfl (r_seql (by kernel_rfl))) ?_)))))
  refine va ?_
  refine qk [1, 2, 4, 5, 14, 15] ?_
  refine wQ_then (wC_cond_f rfl (wC_region (vv (v := .bool false) (y_binop rfl rfl rfl (r_seql (by kernel_rfl))) ?_)))
  refine va ?_
  refine qk [1, 2, 4, 5, 14, 15] ?_
  refine wQ_then (wC_cond_f rfl (wC_seq (wC_seq (wC_region (vv (v := .bool false) (y_binop rfl rfl rfl (r_seql (by kernel_rfl))) ?_)))))
  refine va ?_
  refine qk [1, 2, 4, 5, 14, 26] ?_
  refine wQ_then (wC_cond_f rfl (wC_region (vv (v := .bool false) (y_binop rfl rfl rfl (r_seql (by kernel_rfl))) ?_)))
  refine va ?_
  refine qk [1, 2, 4, 5, 14, 26] ?_
  refine x_tnsr (vv (v := .bool false) (y_binop rfl rfl rfl (r_seql (by kernel_rfl))) ?_)
  refine va ?_
  refine qk [1, 2, 4, 5, 14, 33] ?_
  refine wQ_then (wC_cond_f rfl (wC_seq (wC_seq (wC_region (vv (v := .bool true) (y_binop rfl rfl rfl (r_seql (by kernel_rfl))) ?_)))))
  refine va ?_
  refine qk [1, 2, 4, 5, 14, 43] ?_
  refine wQ_then (wC_cond_t rfl (wC_skip (wQ_then (wC_cond_t rfl (wC_region (vm ?_))))))
  obtain ⟨b106, o107, rfl⟩ := Rd.addr (St.rd 3 S104 rfl) (by decide)
  refine vv (v := .pointer (some ⟨b106, o107 + 0, none⟩)) (y_indexAddr rfl rfl rfl (r_indexAddr 0 Tryd.underlying62 inf3 rfl (by decide))) ?_
  refine vv (v := .int .i64 x.at_) (y_load rfl rfl (r_load Tryd.underlying3 rfl (Rd.cl (j := 0) (St.rd 3 S104 rfl) rfl))) ?_
  refine vv (yfa 3 fa41_3) ?_
  refine sr (row' := #[.int .i64 x.kd, .int .i64 0, .int .i64 0, .int .i64 x.at_, .int .i64 0, .int .i64 x.ek, .int .i64 0, .int .i64 0, .int .i64 0, .int .i64 0, .int .i64 0]) 0 S104 inf3 ?_; intro w108 S109; clear S104
  refine qk [1, 2, 4, 5] ?_
  refine x_utssr (vv (ylr 2 S109 Tryd.underlying41 inf41) ?_)
  refine cab en23 S109 (HW _) ?_; intro w110 S111; clear S109
  refine vv (v := .bool false) (y_binop rfl rfl rfl (r_seql (by kernel_rfl))) ?_
  refine qk [1, 2, 4, 5, 65] ?_
  refine x_tnktssr (vv (ylr 2 S111 Tryd.underlying41 inf41) ?_)
  refine cab en23 S111 (HW _) ?_; intro w113 S114; clear S111
  refine vv (v := .bool false) (y_binop rfl rfl rfl (r_seql (by kernel_rfl))) ?_
  refine qk [1, 4, 5, 83] ?_
  refine x_tnktssr (vv (yfa 0 fa41_0) ?_)
  refine vv (ylc 0 S114 Tryd.underlying3) ?_
  refine vv (dneqT (h := by omega)) ?_
  refine qk [4, 5, 95] ?_
  refine wQ_then (wC_cond_t rfl (wC_region (vv (yfa 5 fa41_5) ?_)))
  refine vv (yfa 5 fa39_0) ?_
  refine sr (row' := #[.int .i64 x.kd, .int .i64 0, .int .i64 0, .int .i64 x.at_, .int .i64 0, .int .i64 0, .int .i64 0, .int .i64 0, .int .i64 0, .int .i64 0, .int .i64 0]) 0 S114 inf3 ?_; intro w116 S117; clear S114
  refine qk [4, 5] ?_
  refine x_tsr (vv (ylr 0 S117 Tryd.underlying41 inf41) ?_)
  refine sa 1 S117 inf41 ?_; intro w118 S119; clear S117
  refine qk [4] ?_
  refine x_te (wQ_post (rs := [.cell 4 41]) (vs := [.agg #[.int .i64 x.kd, .int .i64 0, .int .i64 0, .int .i64 x.at_, .int .i64 0, .int .i64 0, .int .i64 0, .int .i64 0, .int .i64 0, .int .i64 0, .int .i64 0]]) rfl ⟨⟨_, rfl, res_row 1 S119 rfl Tryd.underlying41 rfl inf41⟩, trivial⟩ ?_)
  rw [show keep x = ⟨x.kd, 0, 0, x.at_, 0, 0, 0, 0, 0, 0, 0⟩ from by simp [keep, hk]]
  exact ⟨rfl, S119.low⟩
 ·have hl := hf
  simp [formL, hk] at hl
  subst hl
  have HW := fun w => ActWord_calls x w
  rw [show wordOf x.kd x.ek = ⟨#[108, 111, 115, 101]⟩ from by simp [wordOf, hk]] at HW
  refine wC_region (vv (ylr 2 S11 Tryd.underlying41 inf41) ?_)
  refine cab en23 S11 (HW _) ?_; intro w120 S121; clear S11
  refine qk [1, 2, 4, 5, 14] ?_
  refine wQ_then (wC_block (wC_seq (wC_seq (wC_region (vv (v := .bool false) (y_binop rfl rfl rfl (r_seql (by kernel_rfl))) ?_)))))
  refine va ?_
  refine qk [1, 2, 4, 5, 14, 15] ?_
  refine wQ_then (wC_cond_f rfl (wC_region (vv (v := .bool false) (y_binop rfl rfl rfl (r_seql (by kernel_rfl))) ?_)))
  refine va ?_
  refine qk [1, 2, 4, 5, 14, 15] ?_
  refine wQ_then (wC_cond_f rfl (wC_seq (wC_seq (wC_region (vv (v := .bool false) (y_binop rfl rfl rfl (r_seql (by kernel_rfl))) ?_)))))
  refine va ?_
  refine qk [1, 2, 4, 5, 14, 26] ?_
  refine wQ_then (wC_cond_f rfl (wC_region (vv (v := .bool false) (y_binop rfl rfl rfl (r_seql (by kernel_rfl))) ?_)))
  refine va ?_
  refine qk [1, 2, 4, 5, 14, 26] ?_
  refine x_tnsr (vv (v := .bool false) (y_binop rfl rfl rfl (r_seql (by kernel_rfl))) ?_)
  refine va ?_
  refine qk [1, 2, 4, 5, 14, 33] ?_
  refine wQ_then (wC_cond_f rfl (wC_seq (wC_seq (wC_region (vv (v := .bool false) (y_binop rfl rfl rfl (r_seql (by kernel_rfl))) ?_)))))
  refine va ?_
  refine qk [1, 2, 4, 5, 14, 43] ?_
  refine x_tnsr (vv (v := .bool true) (y_binop rfl rfl rfl (r_seql (by kernel_rfl))) ?_)
  refine va ?_
  refine qk [1, 2, 4, 5, 14, 43] ?_
  refine wQ_then (wC_cond_t rfl (wC_skip (wQ_then (wC_cond_t rfl (wC_region (vm ?_))))))
  obtain ⟨b123, o124, rfl⟩ := Rd.addr (St.rd 3 S121 rfl) (by decide)
  refine vv (v := .pointer (some ⟨b123, o124 + 0, none⟩)) (y_indexAddr rfl rfl rfl (r_indexAddr 0 Tryd.underlying62 inf3 rfl (by decide))) ?_
  refine vv (v := .int .i64 x.at_) (y_load rfl rfl (r_load Tryd.underlying3 rfl (Rd.cl (j := 0) (St.rd 3 S121 rfl) rfl))) ?_
  refine vv (yfa 3 fa41_3) ?_
  refine sr (row' := #[.int .i64 x.kd, .int .i64 0, .int .i64 0, .int .i64 x.at_, .int .i64 0, .int .i64 x.ek, .int .i64 0, .int .i64 0, .int .i64 0, .int .i64 0, .int .i64 0]) 0 S121 inf3 ?_; intro w125 S126; clear S121
  refine qk [1, 2, 4, 5] ?_
  refine x_utssr (vv (ylr 2 S126 Tryd.underlying41 inf41) ?_)
  refine cab en23 S126 (HW _) ?_; intro w127 S128; clear S126
  refine vv (v := .bool false) (y_binop rfl rfl rfl (r_seql (by kernel_rfl))) ?_
  refine qk [1, 2, 4, 5, 65] ?_
  refine x_tnktssr (vv (ylr 2 S128 Tryd.underlying41 inf41) ?_)
  refine cab en23 S128 (HW _) ?_; intro w130 S131; clear S128
  refine vv (v := .bool false) (y_binop rfl rfl rfl (r_seql (by kernel_rfl))) ?_
  refine qk [1, 4, 5, 83] ?_
  refine x_tnktssr (vv (yfa 0 fa41_0) ?_)
  refine vv (ylc 0 S131 Tryd.underlying3) ?_
  refine vv (dneqT (h := by omega)) ?_
  refine qk [4, 5, 95] ?_
  refine wQ_then (wC_cond_t rfl (wC_region (vv (yfa 5 fa41_5) ?_)))
  refine vv (yfa 5 fa39_0) ?_
  refine sr (row' := #[.int .i64 x.kd, .int .i64 0, .int .i64 0, .int .i64 x.at_, .int .i64 0, .int .i64 0, .int .i64 0, .int .i64 0, .int .i64 0, .int .i64 0, .int .i64 0]) 0 S131 inf3 ?_; intro w133 S134; clear S131
  refine qk [4, 5] ?_
  refine x_tsr (vv (ylr 0 S134 Tryd.underlying41 inf41) ?_)
  refine sa 1 S134 inf41 ?_; intro w135 S136; clear S134
  refine qk [4] ?_
  refine x_te (wQ_post (rs := [.cell 4 41]) (vs := [.agg #[.int .i64 x.kd, .int .i64 0, .int .i64 0, .int .i64 x.at_, .int .i64 0, .int .i64 0, .int .i64 0, .int .i64 0, .int .i64 0, .int .i64 0, .int .i64 0]]) rfl ⟨⟨_, rfl, res_row 1 S136 rfl Tryd.underlying41 rfl inf41⟩, trivial⟩ ?_)
  rw [show keep x = ⟨x.kd, 0, 0, x.at_, 0, 0, 0, 0, 0, 0, 0⟩ from by simp [keep, hk]]
  exact ⟨rfl, S136.low⟩
 ·have hl := hf
  simp [formL, hk] at hl
  subst hl
  have HW := fun w => ActWord_calls x w
  rw [show wordOf x.kd x.ek = ⟨#[100, 111, 117, 98, 108, 101]⟩ from by simp [wordOf, hk]] at HW
  refine wC_region (vv (ylr 2 S11 Tryd.underlying41 inf41) ?_)
  refine cab en23 S11 (HW _) ?_; intro w137 S138; clear S11
  refine qk [1, 2, 4, 5, 14] ?_
  refine wQ_then (wC_block (wC_seq (wC_seq (wC_region (vv (v := .bool false) (y_binop rfl rfl rfl (r_seql (by kernel_rfl))) ?_)))))
  refine va ?_
  refine qk [1, 2, 4, 5, 14, 15] ?_
  refine wQ_then (wC_cond_f rfl (wC_region (vv (v := .bool false) (y_binop rfl rfl rfl (r_seql (by kernel_rfl))) ?_)))
  refine va ?_
  refine qk [1, 2, 4, 5, 14, 15] ?_
  refine wQ_then (wC_cond_f rfl (wC_seq (wC_seq (wC_region (vv (v := .bool false) (y_binop rfl rfl rfl (r_seql (by kernel_rfl))) ?_)))))
  refine va ?_
  refine qk [1, 2, 4, 5, 14, 26] ?_
  refine wQ_then (wC_cond_f rfl (wC_region (vv (v := .bool false) (y_binop rfl rfl rfl (r_seql (by kernel_rfl))) ?_)))
  refine va ?_
  refine qk [1, 2, 4, 5, 14, 26] ?_
  refine x_tnsr (vv (v := .bool false) (y_binop rfl rfl rfl (r_seql (by kernel_rfl))) ?_)
  refine va ?_
  refine qk [1, 2, 4, 5, 14, 33] ?_
  refine wQ_then (wC_cond_f rfl (wC_seq (wC_seq (wC_region (vv (v := .bool false) (y_binop rfl rfl rfl (r_seql (by kernel_rfl))) ?_)))))
  refine va ?_
  refine qk [1, 2, 4, 5, 14, 43] ?_
  refine x_tnsr (vv (v := .bool false) (y_binop rfl rfl rfl (r_seql (by kernel_rfl))) ?_)
  refine va ?_
  refine qk [1, 2, 4, 5, 14, 43] ?_
  refine wQ_then (wC_cond_f rfl (wC_region (vv (v := .bool true) (y_binop rfl rfl rfl (r_seql (by kernel_rfl))) ?_)))
  refine va ?_
  refine qk [1, 2, 4, 5, 14, 43] ?_
  refine wQ_then (wC_cond_t rfl (wC_region (vm ?_)))
  obtain ⟨b140, o141, rfl⟩ := Rd.addr (St.rd 3 S138 rfl) (by decide)
  refine vv (v := .pointer (some ⟨b140, o141 + 0, none⟩)) (y_indexAddr rfl rfl rfl (r_indexAddr 0 Tryd.underlying62 inf3 rfl (by decide))) ?_
  refine vv (v := .int .i64 x.at_) (y_load rfl rfl (r_load Tryd.underlying3 rfl (Rd.cl (j := 0) (St.rd 3 S138 rfl) rfl))) ?_
  refine vv (yfa 3 fa41_3) ?_
  refine sr (row' := #[.int .i64 x.kd, .int .i64 0, .int .i64 0, .int .i64 x.at_, .int .i64 0, .int .i64 x.ek, .int .i64 0, .int .i64 0, .int .i64 0, .int .i64 0, .int .i64 0]) 0 S138 inf3 ?_; intro w142 S143; clear S138
  refine qk [1, 2, 4, 5] ?_
  refine x_utssr (vv (ylr 2 S143 Tryd.underlying41 inf41) ?_)
  refine cab en23 S143 (HW _) ?_; intro w144 S145; clear S143
  refine vv (v := .bool false) (y_binop rfl rfl rfl (r_seql (by kernel_rfl))) ?_
  refine qk [1, 2, 4, 5, 65] ?_
  refine x_tnktssr (vv (ylr 2 S145 Tryd.underlying41 inf41) ?_)
  refine cab en23 S145 (HW _) ?_; intro w147 S148; clear S145
  refine vv (v := .bool false) (y_binop rfl rfl rfl (r_seql (by kernel_rfl))) ?_
  refine qk [1, 4, 5, 83] ?_
  refine x_tnktssr (vv (yfa 0 fa41_0) ?_)
  refine vv (ylc 0 S148 Tryd.underlying3) ?_
  refine vv (dneqT (h := by omega)) ?_
  refine qk [4, 5, 95] ?_
  refine wQ_then (wC_cond_t rfl (wC_region (vv (yfa 5 fa41_5) ?_)))
  refine vv (yfa 5 fa39_0) ?_
  refine sr (row' := #[.int .i64 x.kd, .int .i64 0, .int .i64 0, .int .i64 x.at_, .int .i64 0, .int .i64 0, .int .i64 0, .int .i64 0, .int .i64 0, .int .i64 0, .int .i64 0]) 0 S148 inf3 ?_; intro w150 S151; clear S148
  refine qk [4, 5] ?_
  refine x_tsr (vv (ylr 0 S151 Tryd.underlying41 inf41) ?_)
  refine sa 1 S151 inf41 ?_; intro w152 S153; clear S151
  refine qk [4] ?_
  refine x_te (wQ_post (rs := [.cell 4 41]) (vs := [.agg #[.int .i64 x.kd, .int .i64 0, .int .i64 0, .int .i64 x.at_, .int .i64 0, .int .i64 0, .int .i64 0, .int .i64 0, .int .i64 0, .int .i64 0, .int .i64 0]]) rfl ⟨⟨_, rfl, res_row 1 S153 rfl Tryd.underlying41 rfl inf41⟩, trivial⟩ ?_)
  rw [show keep x = ⟨x.kd, 0, 0, x.at_, 0, 0, 0, 0, 0, 0, 0⟩ from by simp [keep, hk]]
  exact ⟨rfl, S153.low⟩
 ·have hl := hf
  simp [formL, hk] at hl
  subst hl
  have HW := fun w => ActWord_calls x w
  rw [show wordOf x.kd x.ek = ⟨#[97, 108, 108]⟩ from by simp [wordOf, hk]] at HW
  refine wC_region (vv (ylr 2 S11 Tryd.underlying41 inf41) ?_)
  refine cab en23 S11 (HW _) ?_; intro w154 S155; clear S11
  refine qk [1, 2, 4, 5, 14] ?_
  refine wQ_then (wC_block (wC_seq (wC_seq (wC_region (vv (v := .bool false) (y_binop rfl rfl rfl (r_seql (by kernel_rfl))) ?_)))))
  refine va ?_
  refine qk [1, 2, 4, 5, 14, 15] ?_
  refine wQ_then (wC_cond_f rfl (wC_region (vv (v := .bool false) (y_binop rfl rfl rfl (r_seql (by kernel_rfl))) ?_)))
  refine va ?_
  refine qk [1, 2, 4, 5, 14, 15] ?_
  refine wQ_then (wC_cond_f rfl (wC_seq (wC_seq (wC_region (vv (v := .bool false) (y_binop rfl rfl rfl (r_seql (by kernel_rfl))) ?_)))))
  refine va ?_
  refine qk [1, 2, 4, 5, 14, 26] ?_
  refine wQ_then (wC_cond_f rfl (wC_region (vv (v := .bool false) (y_binop rfl rfl rfl (r_seql (by kernel_rfl))) ?_)))
  refine va ?_
  refine qk [1, 2, 4, 5, 14, 26] ?_
  refine x_tnsr (vv (v := .bool false) (y_binop rfl rfl rfl (r_seql (by kernel_rfl))) ?_)
  refine va ?_
  refine qk [1, 2, 4, 5, 14, 33] ?_
  refine wQ_then (wC_cond_f rfl (wC_seq (wC_seq (wC_region (vv (v := .bool false) (y_binop rfl rfl rfl (r_seql (by kernel_rfl))) ?_)))))
  refine va ?_
  refine qk [1, 2, 4, 5, 14, 43] ?_
  refine x_tnsr (vv (v := .bool false) (y_binop rfl rfl rfl (r_seql (by kernel_rfl))) ?_)
  refine va ?_
  refine qk [1, 2, 4, 5, 14, 43] ?_
  refine wQ_then (wC_cond_f rfl (wC_region (vv (v := .bool false) (y_binop rfl rfl rfl (r_seql (by kernel_rfl))) ?_)))
  refine va ?_
  refine qk [1, 2, 4, 5, 14, 43] ?_
  refine wQ_then (wC_cond_f rfl (wC_seq (wC_seq (wC_region (vv (v := .bool false) (y_binop rfl rfl rfl (r_seql (by kernel_rfl))) ?_)))))
  refine va ?_
  refine qk [1, 2, 4, 5, 14, 51] ?_
  refine x_tnsr (vv (v := .bool false) (y_binop rfl rfl rfl (r_seql (by kernel_rfl))) ?_)
  refine va ?_
  refine qk [1, 2, 4, 5, 14, 51] ?_
  refine wQ_then (wC_cond_f rfl (wC_region (vv (v := .bool false) (y_binop rfl rfl rfl (r_seql (by kernel_rfl))) ?_)))
  refine va ?_
  refine qk [1, 2, 4, 5, 51] ?_
  refine wQ_then (wC_cond_f rfl (wC_skip (wQ_blk_n (wQ_then (wC_seq (wC_seq (wC_region (vv (ylr 2 S155 Tryd.underlying41 inf41) ?_))))))))
  refine cab en23 S155 (HW _) ?_; intro w157 S158; clear S155
  refine vv (v := .bool false) (y_binop rfl rfl rfl (r_seql (by kernel_rfl))) ?_
  refine qk [1, 2, 4, 5, 65] ?_
  refine x_tnktssr (vv (ylr 2 S158 Tryd.underlying41 inf41) ?_)
  refine cab en23 S158 (HW _) ?_; intro w160 S161; clear S158
  refine vv (v := .bool false) (y_binop rfl rfl rfl (r_seql (by kernel_rfl))) ?_
  refine qk [1, 4, 5, 83] ?_
  refine x_tnktssr (vv (yfa 0 fa41_0) ?_)
  refine vv (ylc 0 S161 Tryd.underlying3) ?_
  refine vv (dneqT (h := by omega)) ?_
  refine qk [4, 5, 95] ?_
  refine wQ_then (wC_cond_t rfl (wC_region (vv (yfa 5 fa41_5) ?_)))
  refine vv (yfa 5 fa39_0) ?_
  refine sr (row' := #[.int .i64 x.kd, .int .i64 0, .int .i64 0, .int .i64 0, .int .i64 0, .int .i64 0, .int .i64 0, .int .i64 0, .int .i64 0, .int .i64 0, .int .i64 0]) 0 S161 inf3 ?_; intro w163 S164; clear S161
  refine qk [4, 5] ?_
  refine x_tsr (vv (ylr 0 S164 Tryd.underlying41 inf41) ?_)
  refine sa 1 S164 inf41 ?_; intro w165 S166; clear S164
  refine qk [4] ?_
  refine x_te (wQ_post (rs := [.cell 4 41]) (vs := [.agg #[.int .i64 x.kd, .int .i64 0, .int .i64 0, .int .i64 0, .int .i64 0, .int .i64 0, .int .i64 0, .int .i64 0, .int .i64 0, .int .i64 0, .int .i64 0]]) rfl ⟨⟨_, rfl, res_row 1 S166 rfl Tryd.underlying41 rfl inf41⟩, trivial⟩ ?_)
  rw [show keep x = ⟨x.kd, 0, 0, 0, 0, 0, 0, 0, 0, 0, 0⟩ from by simp [keep, hk]]
  exact ⟨rfl, S166.low⟩
 ·have hl := hf
  simp [formL, hk, hek] at hl
  subst hl
  have HW := fun w => ActWord_calls x w
  rw [show wordOf x.kd x.ek = ⟨#[112, 117, 98, 108, 105, 115, 104]⟩ from by simp [wordOf, hk, hek]] at HW
  refine wC_region (vv (ylr 2 S11 Tryd.underlying41 inf41) ?_)
  refine cab en23 S11 (HW _) ?_; intro w167 S168; clear S11
  refine qk [1, 2, 4, 5, 14] ?_
  refine wQ_then (wC_block (wC_seq (wC_seq (wC_region (vv (v := .bool false) (y_binop rfl rfl rfl (r_seql (by kernel_rfl))) ?_)))))
  refine va ?_
  refine qk [1, 2, 4, 5, 14, 15] ?_
  refine wQ_then (wC_cond_f rfl (wC_region (vv (v := .bool false) (y_binop rfl rfl rfl (r_seql (by kernel_rfl))) ?_)))
  refine va ?_
  refine qk [1, 2, 4, 5, 14, 15] ?_
  refine wQ_then (wC_cond_f rfl (wC_seq (wC_seq (wC_region (vv (v := .bool false) (y_binop rfl rfl rfl (r_seql (by kernel_rfl))) ?_)))))
  refine va ?_
  refine qk [1, 2, 4, 5, 14, 26] ?_
  refine wQ_then (wC_cond_f rfl (wC_region (vv (v := .bool false) (y_binop rfl rfl rfl (r_seql (by kernel_rfl))) ?_)))
  refine va ?_
  refine qk [1, 2, 4, 5, 14, 26] ?_
  refine x_tnsr (vv (v := .bool false) (y_binop rfl rfl rfl (r_seql (by kernel_rfl))) ?_)
  refine va ?_
  refine qk [1, 2, 4, 5, 14, 33] ?_
  refine wQ_then (wC_cond_f rfl (wC_seq (wC_seq (wC_region (vv (v := .bool false) (y_binop rfl rfl rfl (r_seql (by kernel_rfl))) ?_)))))
  refine va ?_
  refine qk [1, 2, 4, 5, 14, 43] ?_
  refine x_tnsr (vv (v := .bool false) (y_binop rfl rfl rfl (r_seql (by kernel_rfl))) ?_)
  refine va ?_
  refine qk [1, 2, 4, 5, 14, 43] ?_
  refine wQ_then (wC_cond_f rfl (wC_region (vv (v := .bool false) (y_binop rfl rfl rfl (r_seql (by kernel_rfl))) ?_)))
  refine va ?_
  refine qk [1, 2, 4, 5, 14, 43] ?_
  refine wQ_then (wC_cond_f rfl (wC_seq (wC_seq (wC_region (vv (v := .bool true) (y_binop rfl rfl rfl (r_seql (by kernel_rfl))) ?_)))))
  refine va ?_
  refine qk [1, 2, 4, 5, 14, 51] ?_
  refine wQ_then (wC_cond_t rfl (wC_skip (wQ_then (wC_cond_t rfl (wC_seq (wC_region (vm ?_)))))))
  obtain ⟨b170, o171, rfl⟩ := Rd.addr (St.rd 3 S168 rfl) (by decide)
  refine vv (v := .pointer (some ⟨b170, o171 + 0, none⟩)) (y_indexAddr rfl rfl rfl (r_indexAddr 0 Tryd.underlying62 inf3 rfl (by decide))) ?_
  refine vv (v := .int .i64 x.nd) (y_load rfl rfl (r_load Tryd.underlying3 rfl (Rd.cl (j := 0) (St.rd 3 S168 rfl) rfl))) ?_
  refine vv (yfa 1 fa41_1) ?_
  refine sr (row' := #[.int .i64 x.kd, .int .i64 x.nd, .int .i64 0, .int .i64 0, .int .i64 0, .int .i64 x.ek, .int .i64 0, .int .i64 0, .int .i64 0, .int .i64 0, .int .i64 0]) 0 S168 inf3 ?_; intro w172 S173; clear S168
  refine qk [1, 2, 4, 5] ?_
  refine x_tr (vm ?_)
  refine vv (v := .pointer (some ⟨b170, o171 + 1, none⟩)) (y_indexAddr rfl rfl rfl (r_indexAddr 1 Tryd.underlying62 inf3 rfl (by decide))) ?_
  refine vv (v := .int .i64 x.qu) (y_load rfl rfl (r_load Tryd.underlying3 rfl (Rd.cl (j := 1) (St.rd 3 S173 rfl) rfl))) ?_
  refine vv (yfa 2 fa41_2) ?_
  refine sr (row' := #[.int .i64 x.kd, .int .i64 x.nd, .int .i64 x.qu, .int .i64 0, .int .i64 0, .int .i64 x.ek, .int .i64 0, .int .i64 0, .int .i64 0, .int .i64 0, .int .i64 0]) 0 S173 inf3 ?_; intro w174 S175; clear S173
  refine qk [1, 2, 4, 5] ?_
  refine x_utssr (vv (ylr 2 S175 Tryd.underlying41 inf41) ?_)
  refine cab en23 S175 (HW _) ?_; intro w176 S177; clear S175
  refine vv (v := .bool true) (y_binop rfl rfl rfl (r_seql (by kernel_rfl))) ?_
  refine qk [1, 2, 4, 5, 65] ?_
  refine x_tysr (vm ?_)
  refine vv (v := .pointer (some ⟨b170, o171 + 2, none⟩)) (y_indexAddr rfl rfl rfl (r_indexAddr 2 Tryd.underlying62 inf3 rfl (by decide))) ?_
  refine vv (v := .int .i64 x.ep) (y_load rfl rfl (r_load Tryd.underlying3 rfl (Rd.cl (j := 2) (St.rd 3 S177 rfl) rfl))) ?_
  refine vv (yfa 5 fa41_5) ?_
  refine vv (yfa 6 fa39_1) ?_
  refine sr (row' := #[.int .i64 x.kd, .int .i64 x.nd, .int .i64 x.qu, .int .i64 0, .int .i64 0, .int .i64 x.ek, .int .i64 x.ep, .int .i64 0, .int .i64 0, .int .i64 0, .int .i64 0]) 0 S177 inf3 ?_; intro w179 S180; clear S177
  refine qk [1, 2, 4, 5] ?_
  refine x_tsr (vm ?_)
  refine vv (v := .pointer (some ⟨b170, o171 + 3, none⟩)) (y_indexAddr rfl rfl rfl (r_indexAddr 3 Tryd.underlying62 inf3 rfl (by decide))) ?_
  refine vv (v := .int .i64 x.ei) (y_load rfl rfl (r_load Tryd.underlying3 rfl (Rd.cl (j := 3) (St.rd 3 S180 rfl) rfl))) ?_
  refine vv (yfa 5 fa41_5) ?_
  refine vv (yfa 7 fa39_2) ?_
  refine sr (row' := #[.int .i64 x.kd, .int .i64 x.nd, .int .i64 x.qu, .int .i64 0, .int .i64 0, .int .i64 x.ek, .int .i64 x.ep, .int .i64 x.ei, .int .i64 0, .int .i64 0, .int .i64 0]) 0 S180 inf3 ?_; intro w181 S182; clear S180
  refine qk [1, 2, 4, 5] ?_
  refine x_tr (vm ?_)
  refine vv (v := .pointer (some ⟨b170, o171 + 4, none⟩)) (y_indexAddr rfl rfl rfl (r_indexAddr 4 Tryd.underlying62 inf3 rfl (by decide))) ?_
  refine vv (v := .int .i64 x.eb) (y_load rfl rfl (r_load Tryd.underlying3 rfl (Rd.cl (j := 4) (St.rd 3 S182 rfl) rfl))) ?_
  refine vv (yfa 5 fa41_5) ?_
  refine vv (yfa 8 fa39_3) ?_
  refine sr (row' := #[.int .i64 x.kd, .int .i64 x.nd, .int .i64 x.qu, .int .i64 0, .int .i64 0, .int .i64 x.ek, .int .i64 x.ep, .int .i64 x.ei, .int .i64 x.eb, .int .i64 0, .int .i64 0]) 0 S182 inf3 ?_; intro w183 S184; clear S182
  refine qk [1, 2, 4, 5] ?_
  refine x_tssr (vv (ylr 2 S184 Tryd.underlying41 inf41) ?_)
  refine cab en23 S184 (HW _) ?_; intro w185 S186; clear S184
  refine vv (v := .bool false) (y_binop rfl rfl rfl (r_seql (by kernel_rfl))) ?_
  refine qk [1, 4, 5, 83] ?_
  refine x_tnktssr (vv (yfa 0 fa41_0) ?_)
  refine vv (ylc 0 S186 Tryd.underlying3) ?_
  refine vv (dneqF (h := by omega)) ?_
  refine qk [4, 5, 95] ?_
  refine x_tnktsr (vv (ylr 0 S186 Tryd.underlying41 inf41) ?_)
  refine sa 1 S186 inf41 ?_; intro w188 S189; clear S186
  refine qk [4] ?_
  refine x_te (wQ_post (rs := [.cell 4 41]) (vs := [.agg #[.int .i64 x.kd, .int .i64 x.nd, .int .i64 x.qu, .int .i64 0, .int .i64 0, .int .i64 x.ek, .int .i64 x.ep, .int .i64 x.ei, .int .i64 x.eb, .int .i64 0, .int .i64 0]]) rfl ⟨⟨_, rfl, res_row 1 S189 rfl Tryd.underlying41 rfl inf41⟩, trivial⟩ ?_)
  rw [show keep x = ⟨x.kd, x.nd, x.qu, 0, 0, x.ek, x.ep, x.ei, x.eb, 0, 0⟩ from by simp [keep, hk, hek]]
  exact ⟨rfl, S189.low⟩
 ·have hl := hf
  simp [formL, hk, hek] at hl
  subst hl
  have HW := fun w => ActWord_calls x w
  rw [show wordOf x.kd x.ek = ⟨#[114, 101, 99, 101, 105, 118, 101]⟩ from by simp [wordOf, hk, hek]] at HW
  refine wC_region (vv (ylr 2 S11 Tryd.underlying41 inf41) ?_)
  refine cab en23 S11 (HW _) ?_; intro w190 S191; clear S11
  refine qk [1, 2, 4, 5, 14] ?_
  refine wQ_then (wC_block (wC_seq (wC_seq (wC_region (vv (v := .bool false) (y_binop rfl rfl rfl (r_seql (by kernel_rfl))) ?_)))))
  refine va ?_
  refine qk [1, 2, 4, 5, 14, 15] ?_
  refine wQ_then (wC_cond_f rfl (wC_region (vv (v := .bool false) (y_binop rfl rfl rfl (r_seql (by kernel_rfl))) ?_)))
  refine va ?_
  refine qk [1, 2, 4, 5, 14, 15] ?_
  refine wQ_then (wC_cond_f rfl (wC_seq (wC_seq (wC_region (vv (v := .bool false) (y_binop rfl rfl rfl (r_seql (by kernel_rfl))) ?_)))))
  refine va ?_
  refine qk [1, 2, 4, 5, 14, 26] ?_
  refine wQ_then (wC_cond_f rfl (wC_region (vv (v := .bool false) (y_binop rfl rfl rfl (r_seql (by kernel_rfl))) ?_)))
  refine va ?_
  refine qk [1, 2, 4, 5, 14, 26] ?_
  refine x_tnsr (vv (v := .bool false) (y_binop rfl rfl rfl (r_seql (by kernel_rfl))) ?_)
  refine va ?_
  refine qk [1, 2, 4, 5, 14, 33] ?_
  refine wQ_then (wC_cond_f rfl (wC_seq (wC_seq (wC_region (vv (v := .bool false) (y_binop rfl rfl rfl (r_seql (by kernel_rfl))) ?_)))))
  refine va ?_
  refine qk [1, 2, 4, 5, 14, 43] ?_
  refine x_tnsr (vv (v := .bool false) (y_binop rfl rfl rfl (r_seql (by kernel_rfl))) ?_)
  refine va ?_
  refine qk [1, 2, 4, 5, 14, 43] ?_
  refine wQ_then (wC_cond_f rfl (wC_region (vv (v := .bool false) (y_binop rfl rfl rfl (r_seql (by kernel_rfl))) ?_)))
  refine va ?_
  refine qk [1, 2, 4, 5, 14, 43] ?_
  refine wQ_then (wC_cond_f rfl (wC_seq (wC_seq (wC_region (vv (v := .bool false) (y_binop rfl rfl rfl (r_seql (by kernel_rfl))) ?_)))))
  refine va ?_
  refine qk [1, 2, 4, 5, 14, 51] ?_
  refine x_tnsr (vv (v := .bool true) (y_binop rfl rfl rfl (r_seql (by kernel_rfl))) ?_)
  refine va ?_
  refine qk [1, 2, 4, 5, 14, 51] ?_
  refine wQ_then (wC_cond_t rfl (wC_skip (wQ_then (wC_cond_t rfl (wC_seq (wC_region (vm ?_)))))))
  obtain ⟨b193, o194, rfl⟩ := Rd.addr (St.rd 3 S191 rfl) (by decide)
  refine vv (v := .pointer (some ⟨b193, o194 + 0, none⟩)) (y_indexAddr rfl rfl rfl (r_indexAddr 0 Tryd.underlying62 inf3 rfl (by decide))) ?_
  refine vv (v := .int .i64 x.nd) (y_load rfl rfl (r_load Tryd.underlying3 rfl (Rd.cl (j := 0) (St.rd 3 S191 rfl) rfl))) ?_
  refine vv (yfa 1 fa41_1) ?_
  refine sr (row' := #[.int .i64 x.kd, .int .i64 x.nd, .int .i64 0, .int .i64 0, .int .i64 0, .int .i64 x.ek, .int .i64 0, .int .i64 0, .int .i64 0, .int .i64 0, .int .i64 0]) 0 S191 inf3 ?_; intro w195 S196; clear S191
  refine qk [1, 2, 4, 5] ?_
  refine x_tr (vm ?_)
  refine vv (v := .pointer (some ⟨b193, o194 + 1, none⟩)) (y_indexAddr rfl rfl rfl (r_indexAddr 1 Tryd.underlying62 inf3 rfl (by decide))) ?_
  refine vv (v := .int .i64 x.qu) (y_load rfl rfl (r_load Tryd.underlying3 rfl (Rd.cl (j := 1) (St.rd 3 S196 rfl) rfl))) ?_
  refine vv (yfa 2 fa41_2) ?_
  refine sr (row' := #[.int .i64 x.kd, .int .i64 x.nd, .int .i64 x.qu, .int .i64 0, .int .i64 0, .int .i64 x.ek, .int .i64 0, .int .i64 0, .int .i64 0, .int .i64 0, .int .i64 0]) 0 S196 inf3 ?_; intro w197 S198; clear S196
  refine qk [1, 2, 4, 5] ?_
  refine x_utssr (vv (ylr 2 S198 Tryd.underlying41 inf41) ?_)
  refine cab en23 S198 (HW _) ?_; intro w199 S200; clear S198
  refine vv (v := .bool false) (y_binop rfl rfl rfl (r_seql (by kernel_rfl))) ?_
  refine qk [1, 2, 4, 5, 65] ?_
  refine x_tnktssr (vv (ylr 2 S200 Tryd.underlying41 inf41) ?_)
  refine cab en23 S200 (HW _) ?_; intro w202 S203; clear S200
  refine vv (v := .bool false) (y_binop rfl rfl rfl (r_seql (by kernel_rfl))) ?_
  refine qk [1, 4, 5, 83] ?_
  refine x_tnktssr (vv (yfa 0 fa41_0) ?_)
  refine vv (ylc 0 S203 Tryd.underlying3) ?_
  refine vv (dneqF (h := by omega)) ?_
  refine qk [4, 5, 95] ?_
  refine x_tnktsr (vv (ylr 0 S203 Tryd.underlying41 inf41) ?_)
  refine sa 1 S203 inf41 ?_; intro w205 S206; clear S203
  refine qk [4] ?_
  refine x_te (wQ_post (rs := [.cell 4 41]) (vs := [.agg #[.int .i64 x.kd, .int .i64 x.nd, .int .i64 x.qu, .int .i64 0, .int .i64 0, .int .i64 x.ek, .int .i64 0, .int .i64 0, .int .i64 0, .int .i64 0, .int .i64 0]]) rfl ⟨⟨_, rfl, res_row 1 S206 rfl Tryd.underlying41 rfl inf41⟩, trivial⟩ ?_)
  rw [show keep x = ⟨x.kd, x.nd, x.qu, 0, 0, x.ek, 0, 0, 0, 0, 0⟩ from by simp [keep, hk, hek]]
  exact ⟨rfl, S206.low⟩
 ·have hl := hf
  simp [formL, hk, hek] at hl
  subst hl
  have HW := fun w => ActWord_calls x w
  rw [show wordOf x.kd x.ek = ⟨#[97, 99, 107]⟩ from by simp [wordOf, hk, hek]] at HW
  refine wC_region (vv (ylr 2 S11 Tryd.underlying41 inf41) ?_)
  refine cab en23 S11 (HW _) ?_; intro w207 S208; clear S11
  refine qk [1, 2, 4, 5, 14] ?_
  refine wQ_then (wC_block (wC_seq (wC_seq (wC_region (vv (v := .bool false) (y_binop rfl rfl rfl (r_seql (by kernel_rfl))) ?_)))))
  refine va ?_
  refine qk [1, 2, 4, 5, 14, 15] ?_
  refine wQ_then (wC_cond_f rfl (wC_region (vv (v := .bool false) (y_binop rfl rfl rfl (r_seql (by kernel_rfl))) ?_)))
  refine va ?_
  refine qk [1, 2, 4, 5, 14, 15] ?_
  refine wQ_then (wC_cond_f rfl (wC_seq (wC_seq (wC_region (vv (v := .bool false) (y_binop rfl rfl rfl (r_seql (by kernel_rfl))) ?_)))))
  refine va ?_
  refine qk [1, 2, 4, 5, 14, 26] ?_
  refine wQ_then (wC_cond_f rfl (wC_region (vv (v := .bool false) (y_binop rfl rfl rfl (r_seql (by kernel_rfl))) ?_)))
  refine va ?_
  refine qk [1, 2, 4, 5, 14, 26] ?_
  refine x_tnsr (vv (v := .bool false) (y_binop rfl rfl rfl (r_seql (by kernel_rfl))) ?_)
  refine va ?_
  refine qk [1, 2, 4, 5, 14, 33] ?_
  refine wQ_then (wC_cond_f rfl (wC_seq (wC_seq (wC_region (vv (v := .bool false) (y_binop rfl rfl rfl (r_seql (by kernel_rfl))) ?_)))))
  refine va ?_
  refine qk [1, 2, 4, 5, 14, 43] ?_
  refine x_tnsr (vv (v := .bool false) (y_binop rfl rfl rfl (r_seql (by kernel_rfl))) ?_)
  refine va ?_
  refine qk [1, 2, 4, 5, 14, 43] ?_
  refine wQ_then (wC_cond_f rfl (wC_region (vv (v := .bool false) (y_binop rfl rfl rfl (r_seql (by kernel_rfl))) ?_)))
  refine va ?_
  refine qk [1, 2, 4, 5, 14, 43] ?_
  refine wQ_then (wC_cond_f rfl (wC_seq (wC_seq (wC_region (vv (v := .bool false) (y_binop rfl rfl rfl (r_seql (by kernel_rfl))) ?_)))))
  refine va ?_
  refine qk [1, 2, 4, 5, 14, 51] ?_
  refine x_tnsr (vv (v := .bool false) (y_binop rfl rfl rfl (r_seql (by kernel_rfl))) ?_)
  refine va ?_
  refine qk [1, 2, 4, 5, 14, 51] ?_
  refine wQ_then (wC_cond_f rfl (wC_region (vv (v := .bool true) (y_binop rfl rfl rfl (r_seql (by kernel_rfl))) ?_)))
  refine va ?_
  refine qk [1, 2, 4, 5, 51] ?_
  refine x_tysr (vm ?_)
  obtain ⟨b210, o211, rfl⟩ := Rd.addr (St.rd 3 S208 rfl) (by decide)
  refine vv (v := .pointer (some ⟨b210, o211 + 0, none⟩)) (y_indexAddr rfl rfl rfl (r_indexAddr 0 Tryd.underlying62 inf3 rfl (by decide))) ?_
  refine vv (v := .int .i64 x.nd) (y_load rfl rfl (r_load Tryd.underlying3 rfl (Rd.cl (j := 0) (St.rd 3 S208 rfl) rfl))) ?_
  refine vv (yfa 1 fa41_1) ?_
  refine sr (row' := #[.int .i64 x.kd, .int .i64 x.nd, .int .i64 0, .int .i64 0, .int .i64 0, .int .i64 x.ek, .int .i64 0, .int .i64 0, .int .i64 0, .int .i64 0, .int .i64 0]) 0 S208 inf3 ?_; intro w212 S213; clear S208
  refine qk [1, 2, 4, 5] ?_
  refine x_tr (vm ?_)
  refine vv (v := .pointer (some ⟨b210, o211 + 1, none⟩)) (y_indexAddr rfl rfl rfl (r_indexAddr 1 Tryd.underlying62 inf3 rfl (by decide))) ?_
  refine vv (v := .int .i64 x.qu) (y_load rfl rfl (r_load Tryd.underlying3 rfl (Rd.cl (j := 1) (St.rd 3 S213 rfl) rfl))) ?_
  refine vv (yfa 2 fa41_2) ?_
  refine sr (row' := #[.int .i64 x.kd, .int .i64 x.nd, .int .i64 x.qu, .int .i64 0, .int .i64 0, .int .i64 x.ek, .int .i64 0, .int .i64 0, .int .i64 0, .int .i64 0, .int .i64 0]) 0 S213 inf3 ?_; intro w214 S215; clear S213
  refine qk [1, 2, 4, 5] ?_
  refine x_utssr (vv (ylr 2 S215 Tryd.underlying41 inf41) ?_)
  refine cab en23 S215 (HW _) ?_; intro w216 S217; clear S215
  refine vv (v := .bool false) (y_binop rfl rfl rfl (r_seql (by kernel_rfl))) ?_
  refine qk [1, 2, 4, 5, 65] ?_
  refine x_tnktssr (vv (ylr 2 S217 Tryd.underlying41 inf41) ?_)
  refine cab en23 S217 (HW _) ?_; intro w219 S220; clear S217
  refine vv (v := .bool true) (y_binop rfl rfl rfl (r_seql (by kernel_rfl))) ?_
  refine qk [1, 4, 5, 83] ?_
  refine wQ_then (wC_cond_t rfl ?_)
  have S222 := S220.drew; clear S220
  refine wC_head (C := fun w' => St w.heap.size w w' [.blk b7 #[.int .i64 x.kd, .int .i64 x.nd, .int .i64 x.qu, .int .i64 0, .int .i64 0, .int .i64 x.ek, .int .i64 0, .int .i64 0, .int .i64 0, .int .i64 0, .int .i64 0] 41, .blk b4 #[.int .i64 0, .int .i64 0, .int .i64 0, .int .i64 0, .int .i64 0, .int .i64 0, .int .i64 0, .int .i64 0, .int .i64 0, .int .i64 0, .int .i64 0] 41, .blk b1 #[.int .i64 x.kd, .int .i64 x.nd, .int .i64 x.qu, .int .i64 x.at_, .int .i64 x.kp, .int .i64 x.ek, .int .i64 x.ep, .int .i64 x.ei, .int .i64 x.eb, .int .i64 x.eh, .int .i64 x.en] 41, .rd 1 (some ⟨b210, o211, none⟩) 4 [.int .i64 x.nd, .int .i64 x.qu, .int .i64 x.eh, .int .i64 x.en]]) (m := 10) (listed := #[false, false, false, false, false, false, false, false, false, false]) 7 mixed rfl rfl ?_
  refine gk (v := .slice (some ⟨b210, o211, none⟩) 4 c) 0 rfl S222 (fun _ _ => ym) ?_
  refine gk (v := .pointer (some ⟨b210, o211 + 2, none⟩)) 1 rfl S222 (fun _ _ => (y_indexAddr rfl rfl rfl (r_indexAddr 2 Tryd.underlying62 inf3 rfl (by decide)))) ?_
  refine gk (v := .int .i64 x.eh) 2 rfl S222 (fun _ Sx225 => (y_load rfl rfl (r_load Tryd.underlying3 rfl (Rd.cl (j := 2) (St.rd 3 Sx225 rfl) rfl)))) ?_
  refine gk (v := .slice (some ⟨b210, o211, none⟩) 4 c) 3 rfl S222 (fun _ _ => ym) ?_
  refine gk (v := .pointer (some ⟨b210, o211 + 3, none⟩)) 4 rfl S222 (fun _ _ => (y_indexAddr rfl rfl rfl (r_indexAddr 3 Tryd.underlying62 inf3 rfl (by decide)))) ?_
  refine gk (v := .int .i64 x.en) 5 rfl S222 (fun _ Sx228 => (y_load rfl rfl (r_load Tryd.underlying3 rfl (Rd.cl (j := 3) (St.rd 3 Sx228 rfl) rfl)))) ?_
  refine gk (v := .agg #[.int .i64 x.eh, .int .i64 x.en]) 6 rfl S222 (fun _ _ => (y_build (vs := [(0, .int .i64 x.eh), (1, .int .i64 x.en)]) rfl ⟨rfl, rfl, rfl, rfl, trivial⟩ (by kernel_rfl))) ?_
  refine wG_tail (by kernel_rfl) rfl rfl rfl ?_
  refine vv (yfa 5 fa41_5) ?_
  refine vv (yfa 9 fa39_4) ?_
  refine sr (row' := #[.int .i64 x.kd, .int .i64 x.nd, .int .i64 x.qu, .int .i64 0, .int .i64 0, .int .i64 x.ek, .int .i64 0, .int .i64 0, .int .i64 0, .int .i64 x.eh, .int .i64 x.en]) 0 S222 inf37 ?_; intro w230 S231; clear S222
  refine wL_nil (wQ_np ?_)
  refine pk [4, 5] ?_
  refine x_tssr (vv (yfa 0 fa41_0) ?_)
  refine vv (ylc 0 S231 Tryd.underlying3) ?_
  refine vv (dneqF (h := by omega)) ?_
  refine qk [4, 5, 95] ?_
  refine x_tnktsr (vv (ylr 0 S231 Tryd.underlying41 inf41) ?_)
  refine sa 1 S231 inf41 ?_; intro w232 S233; clear S231
  refine qk [4] ?_
  refine x_te (wQ_post (rs := [.cell 4 41]) (vs := [.agg #[.int .i64 x.kd, .int .i64 x.nd, .int .i64 x.qu, .int .i64 0, .int .i64 0, .int .i64 x.ek, .int .i64 0, .int .i64 0, .int .i64 0, .int .i64 x.eh, .int .i64 x.en]]) rfl ⟨⟨_, rfl, res_row 1 S233 rfl Tryd.underlying41 rfl inf41⟩, trivial⟩ ?_)
  rw [show keep x = ⟨x.kd, x.nd, x.qu, 0, 0, x.ek, 0, 0, 0, x.eh, x.en⟩ from by simp [keep, hk, hek]]
  exact ⟨rfl, S233.low⟩
 ·rw [hn] at hf; cases hf
end Go.Proofs.YtkjlafpafmihaaaDoor

namespace Go.Proofs.YtkjlafpafmihaaaDoor
open Go.ChangeShapes Go.WideShapes Go.RowKit

set_option maxRecDepth 100000 in
set_option maxHeartbeats 8000000 in
theorem form_calls (g : Nat) (x : Ac) (w : World) (h : Rd w w.heap.size 11 (some ⟨g, 0, none⟩) 1 x.cells) :
    Calls Tryd.prog 20 #[.pointer (some ⟨g, 0, none⟩)] w (FormPost w g (wordOf x.kd x.ek) (formL x.kd x.ek)) := by
 have S := (St.start w).addRd h; clear h
 refine calls_of_wC (N := 111) (vs := [.pointer (some ⟨g, 0, none⟩)]) Tryd.func20 rfl rfl rfl ?_
 refine cw [0] ?_
 refine x_sr (va ?_)
 iterate 2 refine va ?_
 refine wL_nil (wQ_then (wC_seq ?_))
 have S1 := S.drew; clear S
 refine wC_any_ (C := fun w' => St w.heap.size w w' [.rd 11 (some ⟨g, 0, none⟩) 1 x.cells]) (n := 12) (listed := #[false, false, false, false, false, false, false, false, false, false, false, false]) mixed rfl rfl ?_
 refine ak (v := .pointer (some ⟨g, 0, none⟩)) 0 rfl S1 (fun _ _ => ym) ?_
 refine ak (v := .pointer (some ⟨g, 0, none⟩)) 1 rfl S1 (fun _ _ => y_nil rfl rfl trivial) ?_
 refine ak (v := .pointer (some ⟨g, 1, none⟩)) 2 rfl S1 (fun _ _ => yfa _ fa41_1) ?_
 refine ak (v := .agg #[.pointer (some ⟨g, 1, none⟩), .int .i64 4]) 3 rfl S1 (fun _ _ => (y_build (vs := [(0, .pointer (some ⟨g, 1, none⟩)), (1, .int .i64 4)]) rfl ⟨rfl, rfl, rfl, rfl, trivial⟩ (by kernel_rfl))) ?_
 refine ak (v := .pointer (some ⟨g, 0, none⟩)) 4 rfl S1 (fun _ _ => ym) ?_
 refine ak (v := .pointer (some ⟨g, 0, none⟩)) 5 rfl S1 (fun _ _ => y_nil rfl rfl trivial) ?_
 refine ak (v := .pointer (some ⟨g, 2, none⟩)) 6 rfl S1 (fun _ _ => yfa _ fa41_2) ?_
 refine ak (v := .agg #[.pointer (some ⟨g, 2, none⟩), .int .i64 3]) 7 rfl S1 (fun _ _ => (y_build (vs := [(0, .pointer (some ⟨g, 2, none⟩)), (1, .int .i64 3)]) rfl ⟨rfl, rfl, rfl, rfl, trivial⟩ (by kernel_rfl))) ?_
 refine wA_two (n := 3) (r := 8) (s := 9) (by kernel_rfl) ?_ ?_
 ·refine nna (row := #[.pointer none, .int .i64 0]) 8 rfl S1 Tryd.zeroValue59 ?_; intro b10 w11 S12; clear S1
  refine ⟨(St.del 0 S12), ?_⟩
  refine aq1 9 ?_
  refine nna (row := #[.pointer none, .int .i64 0]) 9 rfl S12 Tryd.zeroValue59 ?_; intro b13 w14 S15; clear S12
  refine ⟨(S15.dels [1, 0]), ?_⟩
  refine aq1 10 ?_
  refine sn 10 rfl 1 S15 inf59 ?_; intro w16 S17; clear S15
  refine ⟨(S17.dels [1, 0]), ?_⟩
  refine aq1 11 ?_
  refine sn 11 rfl 0 S17 inf59 ?_; intro w18 S19; clear S17
  refine ⟨(S19.dels [1, 0]), ?_⟩
  refine wA_done (by kernel_rfl) ?_
  refine pk [0, 2, 3, 4, 5, 6] ?_
  refine x_tsr (vm ?_)
  refine vv (y_nil rfl rfl trivial) ?_
  refine vv (yfa 3 fa41_3) ?_
  refine vv (v := .agg #[.pointer (some ⟨g, 3, none⟩), .int .i64 1048576]) (y_build (vs := [(0, .pointer (some ⟨g, 3, none⟩)), (1, .int .i64 1048576)]) rfl ⟨rfl, rfl, rfl, rfl, trivial⟩ (by kernel_rfl)) ?_
  refine na (row := #[.pointer none, .int .i64 0]) S19 Tryd.zeroValue59 ?_; intro b20 w21 S22; clear S19
  refine sa 0 S22 inf59 ?_; intro w23 S24; clear S22
  refine qk [0, 2, 3, 4, 5, 6, 7] ?_
  refine x_tssr (vm ?_)
  refine vv (y_nil rfl rfl trivial) ?_
  refine vv (yfa 0 fa41_0) ?_
  refine vv (v := .int .i64 x.kd) (y_load rfl rfl (r_load Tryd.underlying3 rfl (Rd.cl (j := 0) (St.rd 3 S24 rfl) rfl))) ?_
  refine qk [0, 2, 3, 4, 5, 6, 7, 24] ?_
  refine x_tbsr ?_
  by_cases h25 : x.kd = 1
  ·refine vv (yeqlT h25) ?_
   refine va ?_
   refine qk [0, 2, 3, 4, 5, 6, 7, 24, 25] ?_
   refine wQ_then (wC_cond_t rfl (wC_seq ?_))
   have S26 := S24.drew; clear S24
   refine wC_any_ (C := fun w' => St w.heap.size w w' [.blk b20 #[.pointer (some ⟨g, 3, none⟩), .int .i64 1048576] 59, .blk b13 #[.pointer (some ⟨g, 2, none⟩), .int .i64 3] 59, .blk b10 #[.pointer (some ⟨g, 1, none⟩), .int .i64 4] 59, .rd 11 (some ⟨g, 0, none⟩) 1 x.cells]) (n := 6) (listed := #[false, false, false, false, false, false]) mixed rfl rfl ?_
   refine ak (v := .agg #[.pointer (some ⟨g, 2, none⟩), .int .i64 3]) 0 rfl S26 (fun _ Sx27 => ylr 1 Sx27 Tryd.underlying59 inf59) ?_
   refine ak (v := .agg #[.pointer (some ⟨g, 1, none⟩), .int .i64 4]) 1 rfl S26 (fun _ Sx28 => ylr 2 Sx28 Tryd.underlying59 inf59) ?_
   refine ak (v := .string ⟨#[109, 97, 107, 101]⟩) 3 rfl S26 (fun _ _ => ya) ?_
   refine aq1 2 ?_
   refine wN_new (i := 2) rfl rfl (V := fun b => .slice (some ⟨b, 0, none⟩) 2 2) (row := #[.pointer (some ⟨g, 2, none⟩), .int .i64 3, .pointer (some ⟨g, 1, none⟩), .int .i64 4]) (t := 59) S26 (wn rfl) rfl rfl (d_buildSlice (vs := [(0, .agg #[.pointer (some ⟨g, 2, none⟩), .int .i64 3]), (1, .agg #[.pointer (some ⟨g, 1, none⟩), .int .i64 4])]) rfl ⟨rfl, rfl, rfl, rfl, trivial⟩ (by kernel_rfl)) ?_; intro b30 w31 S32; clear S26
   refine ⟨(St.del 0 S32), ?_⟩
   refine ak (v := .slice (some ⟨b30, 0, none⟩) 2 2) 4 rfl (St.del 0 S32) (fun _ _ => ya) ?_
   refine ak (v := .bool true) 5 rfl (St.del 0 S32) (fun _ _ => ya) ?_
   refine wA_done (by kernel_rfl) ?_
   refine pk [2, 3, 4] ?_
   refine x_tech (wQ_post (rs := [.tmp 2, .tmp 3, .tmp 4]) (vs := [.string ⟨#[109, 97, 107, 101]⟩, .slice (some ⟨b30, 0, none⟩) 2 2, .bool true]) rfl ⟨rfl, rfl, rfl, trivial⟩ ?_)
   rw [show wordOf x.kd x.ek = ⟨#[109, 97, 107, 101]⟩ from by simp [wordOf, h25]]
   have S35 : St _ _ _ [_] := S32.dels [4, 3, 2, 1]; clear S32
   rw [show formL x.kd x.ek = some [(2, 3), (1, 4)] from by simp [formL, h25]]
   exact ⟨_, rfl, St.blkRdo (n := 2) (xs := ([(2, 3), (1, 4)] : List (Nat × Int)).flatMap (slotCells g)) 0 S35 rfl rfl rfl⟩
  ·refine vv (yeqlF h25) ?_
   refine va ?_
   refine qk [0, 2, 3, 4, 5, 6, 7, 24, 25] ?_
   refine x_tnsr ?_
   by_cases h36 : x.kd = 10
   ·refine vv (yeqlT h36) ?_
    refine va ?_
    refine qk [0, 2, 3, 4, 5, 6, 7, 24, 30] ?_
    refine wQ_then (wC_cond_t rfl (wC_seq ?_))
    have S37 := S24.drew; clear S24
    refine wC_any_ (C := fun w' => St w.heap.size w w' [.blk b20 #[.pointer (some ⟨g, 3, none⟩), .int .i64 1048576] 59, .blk b13 #[.pointer (some ⟨g, 2, none⟩), .int .i64 3] 59, .blk b10 #[.pointer (some ⟨g, 1, none⟩), .int .i64 4] 59, .rd 11 (some ⟨g, 0, none⟩) 1 x.cells]) (n := 6) (listed := #[false, false, false, false, false, false]) mixed rfl rfl ?_
    refine ak (v := .agg #[.pointer (some ⟨g, 2, none⟩), .int .i64 3]) 0 rfl S37 (fun _ Sx38 => ylr 1 Sx38 Tryd.underlying59 inf59) ?_
    refine ak (v := .agg #[.pointer (some ⟨g, 1, none⟩), .int .i64 4]) 1 rfl S37 (fun _ Sx39 => ylr 2 Sx39 Tryd.underlying59 inf59) ?_
    refine ak (v := .string ⟨#[109, 111, 118, 101]⟩) 3 rfl S37 (fun _ _ => ya) ?_
    refine aq1 2 ?_
    refine wN_new (i := 2) rfl rfl (V := fun b => .slice (some ⟨b, 0, none⟩) 2 2) (row := #[.pointer (some ⟨g, 2, none⟩), .int .i64 3, .pointer (some ⟨g, 1, none⟩), .int .i64 4]) (t := 59) S37 (wn rfl) rfl rfl (d_buildSlice (vs := [(0, .agg #[.pointer (some ⟨g, 2, none⟩), .int .i64 3]), (1, .agg #[.pointer (some ⟨g, 1, none⟩), .int .i64 4])]) rfl ⟨rfl, rfl, rfl, rfl, trivial⟩ (by kernel_rfl)) ?_; intro b41 w42 S43; clear S37
    refine ⟨(St.del 0 S43), ?_⟩
    refine ak (v := .slice (some ⟨b41, 0, none⟩) 2 2) 4 rfl (St.del 0 S43) (fun _ _ => ya) ?_
    refine ak (v := .bool true) 5 rfl (St.del 0 S43) (fun _ _ => ya) ?_
    refine wA_done (by kernel_rfl) ?_
    refine pk [2, 3, 4] ?_
    refine x_tech (wQ_post (rs := [.tmp 2, .tmp 3, .tmp 4]) (vs := [.string ⟨#[109, 111, 118, 101]⟩, .slice (some ⟨b41, 0, none⟩) 2 2, .bool true]) rfl ⟨rfl, rfl, rfl, trivial⟩ ?_)
    rw [show wordOf x.kd x.ek = ⟨#[109, 111, 118, 101]⟩ from by simp [wordOf, h25, h36]]
    have S46 : St _ _ _ [_] := S43.dels [4, 3, 2, 1]; clear S43
    rw [show formL x.kd x.ek = some [(2, 3), (1, 4)] from by simp [formL, h25, h36]]
    exact ⟨_, rfl, St.blkRdo (n := 2) (xs := ([(2, 3), (1, 4)] : List (Nat × Int)).flatMap (slotCells g)) 0 S46 rfl rfl rfl⟩
   ·refine vv (yeqlF h36) ?_
    refine va ?_
    refine qk [0, 2, 3, 4, 5, 6, 7, 24, 30] ?_
    refine x_tnsr ?_
    by_cases h47 : x.kd = 3
    ·refine vv (yeqlT h47) ?_
     refine va ?_
     refine qk [0, 2, 3, 4, 5, 6, 7, 24, 35] ?_
     refine wQ_then (wC_cond_t rfl (wC_seq ?_))
     have S48 := S24.drew; clear S24
     refine wC_any_ (C := fun w' => St w.heap.size w w' [.blk b20 #[.pointer (some ⟨g, 3, none⟩), .int .i64 1048576] 59, .blk b13 #[.pointer (some ⟨g, 2, none⟩), .int .i64 3] 59, .blk b10 #[.pointer (some ⟨g, 1, none⟩), .int .i64 4] 59, .rd 11 (some ⟨g, 0, none⟩) 1 x.cells]) (n := 5) (listed := #[false, false, false, false, false]) mixed rfl rfl ?_
     refine ak (v := .agg #[.pointer (some ⟨g, 1, none⟩), .int .i64 4]) 0 rfl S48 (fun _ Sx49 => ylr 2 Sx49 Tryd.underlying59 inf59) ?_
     refine ak (v := .string ⟨#[115, 116, 101, 112]⟩) 2 rfl S48 (fun _ _ => ya) ?_
     refine aq1 1 ?_
     refine wN_new (i := 1) rfl rfl (V := fun b => .slice (some ⟨b, 0, none⟩) 1 1) (row := #[.pointer (some ⟨g, 1, none⟩), .int .i64 4]) (t := 59) S48 (wn rfl) rfl rfl (d_buildSlice (vs := [(0, .agg #[.pointer (some ⟨g, 1, none⟩), .int .i64 4])]) rfl ⟨rfl, rfl, trivial⟩ (by kernel_rfl)) ?_; intro b51 w52 S53; clear S48
     refine ⟨(St.del 0 S53), ?_⟩
     refine ak (v := .slice (some ⟨b51, 0, none⟩) 1 1) 3 rfl (St.del 0 S53) (fun _ _ => ya) ?_
     refine ak (v := .bool true) 4 rfl (St.del 0 S53) (fun _ _ => ya) ?_
     refine wA_done (by kernel_rfl) ?_
     refine pk [2, 3, 4] ?_
     refine x_tech (wQ_post (rs := [.tmp 2, .tmp 3, .tmp 4]) (vs := [.string ⟨#[115, 116, 101, 112]⟩, .slice (some ⟨b51, 0, none⟩) 1 1, .bool true]) rfl ⟨rfl, rfl, rfl, trivial⟩ ?_)
     rw [show wordOf x.kd x.ek = ⟨#[115, 116, 101, 112]⟩ from by simp [wordOf, h25, h36, h47]]
     have S56 : St _ _ _ [_] := S53.dels [4, 3, 2, 1]; clear S53
     rw [show formL x.kd x.ek = some [(1, 4)] from by simp [formL, h25, h36, h47]]
     exact ⟨_, rfl, St.blkRdo (n := 1) (xs := ([(1, 4)] : List (Nat × Int)).flatMap (slotCells g)) 0 S56 rfl rfl rfl⟩
    ·refine vv (yeqlF h47) ?_
     refine va ?_
     refine qk [0, 2, 3, 4, 5, 6, 7, 24, 35] ?_
     refine x_tnsr ?_
     by_cases h57 : x.kd = 9
     ·refine vv (yeqlT h57) ?_
      refine va ?_
      refine qk [0, 2, 3, 4, 5, 6, 7, 24, 39] ?_
      refine wQ_then (wC_cond_t rfl (wC_seq ?_))
      have S58 := S24.drew; clear S24
      refine wC_any_ (C := fun w' => St w.heap.size w w' [.blk b20 #[.pointer (some ⟨g, 3, none⟩), .int .i64 1048576] 59, .blk b13 #[.pointer (some ⟨g, 2, none⟩), .int .i64 3] 59, .blk b10 #[.pointer (some ⟨g, 1, none⟩), .int .i64 4] 59, .rd 11 (some ⟨g, 0, none⟩) 1 x.cells]) (n := 5) (listed := #[false, false, false, false, false]) mixed rfl rfl ?_
      refine ak (v := .agg #[.pointer (some ⟨g, 1, none⟩), .int .i64 4]) 0 rfl S58 (fun _ Sx59 => ylr 2 Sx59 Tryd.underlying59 inf59) ?_
      refine ak (v := .string ⟨#[115, 116, 97, 114, 116]⟩) 2 rfl S58 (fun _ _ => ya) ?_
      refine aq1 1 ?_
      refine wN_new (i := 1) rfl rfl (V := fun b => .slice (some ⟨b, 0, none⟩) 1 1) (row := #[.pointer (some ⟨g, 1, none⟩), .int .i64 4]) (t := 59) S58 (wn rfl) rfl rfl (d_buildSlice (vs := [(0, .agg #[.pointer (some ⟨g, 1, none⟩), .int .i64 4])]) rfl ⟨rfl, rfl, trivial⟩ (by kernel_rfl)) ?_; intro b61 w62 S63; clear S58
      refine ⟨(St.del 0 S63), ?_⟩
      refine ak (v := .slice (some ⟨b61, 0, none⟩) 1 1) 3 rfl (St.del 0 S63) (fun _ _ => ya) ?_
      refine ak (v := .bool true) 4 rfl (St.del 0 S63) (fun _ _ => ya) ?_
      refine wA_done (by kernel_rfl) ?_
      refine pk [2, 3, 4] ?_
      refine x_tech (wQ_post (rs := [.tmp 2, .tmp 3, .tmp 4]) (vs := [.string ⟨#[115, 116, 97, 114, 116]⟩, .slice (some ⟨b61, 0, none⟩) 1 1, .bool true]) rfl ⟨rfl, rfl, rfl, trivial⟩ ?_)
      rw [show wordOf x.kd x.ek = ⟨#[115, 116, 97, 114, 116]⟩ from by simp [wordOf, h25, h36, h47, h57]]
      have S66 : St _ _ _ [_] := S63.dels [4, 3, 2, 1]; clear S63
      rw [show formL x.kd x.ek = some [(1, 4)] from by simp [formL, h25, h36, h47, h57]]
      exact ⟨_, rfl, St.blkRdo (n := 1) (xs := ([(1, 4)] : List (Nat × Int)).flatMap (slotCells g)) 0 S66 rfl rfl rfl⟩
     ·refine vv (yeqlF h57) ?_
      refine va ?_
      refine qk [0, 2, 3, 4, 5, 6, 7, 24, 39] ?_
      refine x_tnsr ?_
      by_cases h67 : x.kd = 8
      ·refine vv (yeqlT h67) ?_
       refine va ?_
       refine qk [0, 2, 3, 4, 5, 6, 7, 24, 43] ?_
       refine wQ_then (wC_cond_t rfl (wC_seq ?_))
       have S68 := S24.drew; clear S24
       refine wC_any_ (C := fun w' => St w.heap.size w w' [.blk b20 #[.pointer (some ⟨g, 3, none⟩), .int .i64 1048576] 59, .blk b13 #[.pointer (some ⟨g, 2, none⟩), .int .i64 3] 59, .blk b10 #[.pointer (some ⟨g, 1, none⟩), .int .i64 4] 59, .rd 11 (some ⟨g, 0, none⟩) 1 x.cells]) (n := 9) (listed := #[false, false, false, false, false, false, false, false, false]) mixed rfl rfl ?_
       refine ak (v := .agg #[.pointer (some ⟨g, 1, none⟩), .int .i64 4]) 0 rfl S68 (fun _ Sx69 => ylr 2 Sx69 Tryd.underlying59 inf59) ?_
       refine ak (v := .pointer (some ⟨g, 0, none⟩)) 1 rfl S68 (fun _ _ => ym) ?_
       refine ak (v := .pointer (some ⟨g, 0, none⟩)) 2 rfl S68 (fun _ _ => y_nil rfl rfl trivial) ?_
       refine ak (v := .pointer (some ⟨g, 4, none⟩)) 3 rfl S68 (fun _ _ => yfa _ fa41_4) ?_
       refine ak (v := .agg #[.pointer (some ⟨g, 4, none⟩), .int .i64 100000]) 4 rfl S68 (fun _ _ => (y_build (vs := [(0, .pointer (some ⟨g, 4, none⟩)), (1, .int .i64 100000)]) rfl ⟨rfl, rfl, rfl, rfl, trivial⟩ (by kernel_rfl))) ?_
       refine ak (v := .string ⟨#[99, 114, 97, 115, 104]⟩) 6 rfl S68 (fun _ _ => ya) ?_
       refine aq1 5 ?_
       refine wN_new (i := 5) rfl rfl (V := fun b => .slice (some ⟨b, 0, none⟩) 2 2) (row := #[.pointer (some ⟨g, 1, none⟩), .int .i64 4, .pointer (some ⟨g, 4, none⟩), .int .i64 100000]) (t := 59) S68 (wn rfl) rfl rfl (d_buildSlice (vs := [(0, .agg #[.pointer (some ⟨g, 1, none⟩), .int .i64 4]), (1, .agg #[.pointer (some ⟨g, 4, none⟩), .int .i64 100000])]) rfl ⟨rfl, rfl, rfl, rfl, trivial⟩ (by kernel_rfl)) ?_; intro b75 w76 S77; clear S68
       refine ⟨(St.del 0 S77), ?_⟩
       refine ak (v := .slice (some ⟨b75, 0, none⟩) 2 2) 7 rfl (St.del 0 S77) (fun _ _ => ya) ?_
       refine ak (v := .bool true) 8 rfl (St.del 0 S77) (fun _ _ => ya) ?_
       refine wA_done (by kernel_rfl) ?_
       refine pk [2, 3, 4] ?_
       refine x_tech (wQ_post (rs := [.tmp 2, .tmp 3, .tmp 4]) (vs := [.string ⟨#[99, 114, 97, 115, 104]⟩, .slice (some ⟨b75, 0, none⟩) 2 2, .bool true]) rfl ⟨rfl, rfl, rfl, trivial⟩ ?_)
       rw [show wordOf x.kd x.ek = ⟨#[99, 114, 97, 115, 104]⟩ from by simp [wordOf, h25, h36, h47, h57, h67]]
       have S80 : St _ _ _ [_] := S77.dels [4, 3, 2, 1]; clear S77
       rw [show formL x.kd x.ek = some [(1, 4), (4, 100000)] from by simp [formL, h25, h36, h47, h57, h67]]
       exact ⟨_, rfl, St.blkRdo (n := 2) (xs := ([(1, 4), (4, 100000)] : List (Nat × Int)).flatMap (slotCells g)) 0 S80 rfl rfl rfl⟩
      ·refine vv (yeqlF h67) ?_
       refine va ?_
       refine qk [0, 2, 3, 4, 5, 6, 7, 24, 43] ?_
       refine x_tnsr ?_
       by_cases h81 : x.kd = 4
       ·refine vv (yeqlT h81) ?_
        refine va ?_
        refine qk [0, 2, 3, 4, 5, 6, 7, 24, 51] ?_
        refine wQ_then (wC_cond_t rfl (wC_seq ?_))
        have S82 := S24.drew; clear S24
        refine wC_any_ (C := fun w' => St w.heap.size w w' [.blk b20 #[.pointer (some ⟨g, 3, none⟩), .int .i64 1048576] 59, .blk b13 #[.pointer (some ⟨g, 2, none⟩), .int .i64 3] 59, .blk b10 #[.pointer (some ⟨g, 1, none⟩), .int .i64 4] 59, .rd 11 (some ⟨g, 0, none⟩) 1 x.cells]) (n := 5) (listed := #[false, false, false, false, false]) mixed rfl rfl ?_
        refine ak (v := .agg #[.pointer (some ⟨g, 3, none⟩), .int .i64 1048576]) 0 rfl S82 (fun _ Sx83 => ylr 0 Sx83 Tryd.underlying59 inf59) ?_
        refine ak (v := .string ⟨#[99, 97, 114, 114, 121]⟩) 2 rfl S82 (fun _ _ => ya) ?_
        refine aq1 1 ?_
        refine wN_new (i := 1) rfl rfl (V := fun b => .slice (some ⟨b, 0, none⟩) 1 1) (row := #[.pointer (some ⟨g, 3, none⟩), .int .i64 1048576]) (t := 59) S82 (wn rfl) rfl rfl (d_buildSlice (vs := [(0, .agg #[.pointer (some ⟨g, 3, none⟩), .int .i64 1048576])]) rfl ⟨rfl, rfl, trivial⟩ (by kernel_rfl)) ?_; intro b85 w86 S87; clear S82
        refine ⟨(St.del 0 S87), ?_⟩
        refine ak (v := .slice (some ⟨b85, 0, none⟩) 1 1) 3 rfl (St.del 0 S87) (fun _ _ => ya) ?_
        refine ak (v := .bool true) 4 rfl (St.del 0 S87) (fun _ _ => ya) ?_
        refine wA_done (by kernel_rfl) ?_
        refine pk [2, 3, 4] ?_
        refine x_tech (wQ_post (rs := [.tmp 2, .tmp 3, .tmp 4]) (vs := [.string ⟨#[99, 97, 114, 114, 121]⟩, .slice (some ⟨b85, 0, none⟩) 1 1, .bool true]) rfl ⟨rfl, rfl, rfl, trivial⟩ ?_)
        rw [show wordOf x.kd x.ek = ⟨#[99, 97, 114, 114, 121]⟩ from by simp [wordOf, h25, h36, h47, h57, h67, h81]]
        have S90 : St _ _ _ [_] := S87.dels [4, 3, 2, 1]; clear S87
        rw [show formL x.kd x.ek = some [(3, 1048576)] from by simp [formL, h25, h36, h47, h57, h67, h81]]
        exact ⟨_, rfl, St.blkRdo (n := 1) (xs := ([(3, 1048576)] : List (Nat × Int)).flatMap (slotCells g)) 0 S90 rfl rfl rfl⟩
       ·refine vv (yeqlF h81) ?_
        refine va ?_
        refine qk [0, 2, 3, 4, 5, 6, 7, 24, 51] ?_
        refine x_tnsr ?_
        by_cases h91 : x.kd = 5
        ·refine vv (yeqlT h91) ?_
         refine va ?_
         refine qk [0, 2, 3, 4, 5, 6, 7, 24, 55] ?_
         refine wQ_then (wC_cond_t rfl (wC_seq ?_))
         have S92 := S24.drew; clear S24
         refine wC_any_ (C := fun w' => St w.heap.size w w' [.blk b20 #[.pointer (some ⟨g, 3, none⟩), .int .i64 1048576] 59, .blk b13 #[.pointer (some ⟨g, 2, none⟩), .int .i64 3] 59, .blk b10 #[.pointer (some ⟨g, 1, none⟩), .int .i64 4] 59, .rd 11 (some ⟨g, 0, none⟩) 1 x.cells]) (n := 5) (listed := #[false, false, false, false, false]) mixed rfl rfl ?_
         refine ak (v := .agg #[.pointer (some ⟨g, 3, none⟩), .int .i64 1048576]) 0 rfl S92 (fun _ Sx93 => ylr 0 Sx93 Tryd.underlying59 inf59) ?_
         refine ak (v := .string ⟨#[108, 111, 115, 101]⟩) 2 rfl S92 (fun _ _ => ya) ?_
         refine aq1 1 ?_
         refine wN_new (i := 1) rfl rfl (V := fun b => .slice (some ⟨b, 0, none⟩) 1 1) (row := #[.pointer (some ⟨g, 3, none⟩), .int .i64 1048576]) (t := 59) S92 (wn rfl) rfl rfl (d_buildSlice (vs := [(0, .agg #[.pointer (some ⟨g, 3, none⟩), .int .i64 1048576])]) rfl ⟨rfl, rfl, trivial⟩ (by kernel_rfl)) ?_; intro b95 w96 S97; clear S92
         refine ⟨(St.del 0 S97), ?_⟩
         refine ak (v := .slice (some ⟨b95, 0, none⟩) 1 1) 3 rfl (St.del 0 S97) (fun _ _ => ya) ?_
         refine ak (v := .bool true) 4 rfl (St.del 0 S97) (fun _ _ => ya) ?_
         refine wA_done (by kernel_rfl) ?_
         refine pk [2, 3, 4] ?_
         refine x_tech (wQ_post (rs := [.tmp 2, .tmp 3, .tmp 4]) (vs := [.string ⟨#[108, 111, 115, 101]⟩, .slice (some ⟨b95, 0, none⟩) 1 1, .bool true]) rfl ⟨rfl, rfl, rfl, trivial⟩ ?_)
         rw [show wordOf x.kd x.ek = ⟨#[108, 111, 115, 101]⟩ from by simp [wordOf, h25, h36, h47, h57, h67, h81, h91]]
         have S100 : St _ _ _ [_] := S97.dels [4, 3, 2, 1]; clear S97
         rw [show formL x.kd x.ek = some [(3, 1048576)] from by simp [formL, h25, h36, h47, h57, h67, h81, h91]]
         exact ⟨_, rfl, St.blkRdo (n := 1) (xs := ([(3, 1048576)] : List (Nat × Int)).flatMap (slotCells g)) 0 S100 rfl rfl rfl⟩
        ·refine vv (yeqlF h91) ?_
         refine va ?_
         refine qk [0, 2, 3, 4, 5, 6, 7, 24, 55] ?_
         refine x_tnsr ?_
         by_cases h101 : x.kd = 6
         ·refine vv (yeqlT h101) ?_
          refine va ?_
          refine qk [0, 2, 3, 4, 5, 6, 7, 24, 59] ?_
          refine wQ_then (wC_cond_t rfl (wC_seq ?_))
          have S102 := S24.drew; clear S24
          refine wC_any_ (C := fun w' => St w.heap.size w w' [.blk b20 #[.pointer (some ⟨g, 3, none⟩), .int .i64 1048576] 59, .blk b13 #[.pointer (some ⟨g, 2, none⟩), .int .i64 3] 59, .blk b10 #[.pointer (some ⟨g, 1, none⟩), .int .i64 4] 59, .rd 11 (some ⟨g, 0, none⟩) 1 x.cells]) (n := 5) (listed := #[false, false, false, false, false]) mixed rfl rfl ?_
          refine ak (v := .agg #[.pointer (some ⟨g, 3, none⟩), .int .i64 1048576]) 0 rfl S102 (fun _ Sx103 => ylr 0 Sx103 Tryd.underlying59 inf59) ?_
          refine ak (v := .string ⟨#[100, 111, 117, 98, 108, 101]⟩) 2 rfl S102 (fun _ _ => ya) ?_
          refine aq1 1 ?_
          refine wN_new (i := 1) rfl rfl (V := fun b => .slice (some ⟨b, 0, none⟩) 1 1) (row := #[.pointer (some ⟨g, 3, none⟩), .int .i64 1048576]) (t := 59) S102 (wn rfl) rfl rfl (d_buildSlice (vs := [(0, .agg #[.pointer (some ⟨g, 3, none⟩), .int .i64 1048576])]) rfl ⟨rfl, rfl, trivial⟩ (by kernel_rfl)) ?_; intro b105 w106 S107; clear S102
          refine ⟨(St.del 0 S107), ?_⟩
          refine ak (v := .slice (some ⟨b105, 0, none⟩) 1 1) 3 rfl (St.del 0 S107) (fun _ _ => ya) ?_
          refine ak (v := .bool true) 4 rfl (St.del 0 S107) (fun _ _ => ya) ?_
          refine wA_done (by kernel_rfl) ?_
          refine pk [2, 3, 4] ?_
          refine x_tech (wQ_post (rs := [.tmp 2, .tmp 3, .tmp 4]) (vs := [.string ⟨#[100, 111, 117, 98, 108, 101]⟩, .slice (some ⟨b105, 0, none⟩) 1 1, .bool true]) rfl ⟨rfl, rfl, rfl, trivial⟩ ?_)
          rw [show wordOf x.kd x.ek = ⟨#[100, 111, 117, 98, 108, 101]⟩ from by simp [wordOf, h25, h36, h47, h57, h67, h81, h91, h101]]
          have S110 : St _ _ _ [_] := S107.dels [4, 3, 2, 1]; clear S107
          rw [show formL x.kd x.ek = some [(3, 1048576)] from by simp [formL, h25, h36, h47, h57, h67, h81, h91, h101]]
          exact ⟨_, rfl, St.blkRdo (n := 1) (xs := ([(3, 1048576)] : List (Nat × Int)).flatMap (slotCells g)) 0 S110 rfl rfl rfl⟩
         ·refine vv (yeqlF h101) ?_
          refine va ?_
          refine qk [0, 2, 3, 4, 5, 6, 7, 24, 59] ?_
          refine x_tnsr ?_
          by_cases h111 : x.kd = 7
          ·refine vv (yeqlT h111) ?_
           refine va ?_
           refine qk [0, 2, 3, 4, 5, 6, 24, 63] ?_
           refine x_tysr (va ?_)
           iterate 2 refine va ?_
           refine qk [2, 3, 4] ?_
           refine x_tech (wQ_post (rs := [.tmp 2, .tmp 3, .tmp 4]) (vs := [.string ⟨#[97, 108, 108]⟩, .slice none 0 0, .bool true]) rfl ⟨rfl, rfl, rfl, trivial⟩ ?_)
           rw [show wordOf x.kd x.ek = ⟨#[97, 108, 108]⟩ from by simp [wordOf, h25, h36, h47, h57, h67, h81, h91, h101, h111]]
           have S112 : St _ _ _ [] := S24.dels [3, 2, 1, 0]; clear S24
           rw [show formL x.kd x.ek = some [] from by simp [formL, h25, h36, h47, h57, h67, h81, h91, h101, h111]]
           exact ⟨none, rfl, rdo_nil S112⟩
          ·refine vv (yeqlF h111) ?_
           refine va ?_
           refine qk [0, 2, 3, 4, 5, 6, 24, 63] ?_
           refine x_tnsr ?_
           by_cases h113 : x.kd = 2
           ·refine vv (yeqlT h113) ?_
            refine va ?_
            refine qk [0, 2, 3, 4, 5, 6, 65] ?_
            refine x_tysr (vm ?_)
            refine vv (y_nil rfl rfl trivial) ?_
            refine vv (yfa 5 fa41_5) ?_
            refine va ?_
            refine qk [2, 3, 4, 5, 6, 8] ?_
            refine x_tsr (vm ?_)
            refine vv (y_nil rfl rfl trivial) ?_
            refine vv (yfa 5 fa39_0) ?_
            refine vv (v := .int .i64 x.ek) (y_load rfl rfl (r_load Tryd.underlying3 rfl (Rd.cl (j := 5) (St.rd 3 S24 rfl) rfl))) ?_
            refine qk [2, 3, 4, 5, 6, 8, 73] ?_
            refine x_tbsr ?_
            by_cases h114 : x.ek = 1
            ·refine vv (yeqlT h114) ?_
             refine va ?_
             refine qk [2, 3, 4, 5, 6, 8, 73, 74] ?_
             refine wQ_then (wC_cond_t rfl (wC_seq ?_))
             have S115 := S24.drew; clear S24
             refine wC_any_ (C := fun w' => St w.heap.size w w' [.blk b20 #[.pointer (some ⟨g, 3, none⟩), .int .i64 1048576] 59, .blk b13 #[.pointer (some ⟨g, 2, none⟩), .int .i64 3] 59, .blk b10 #[.pointer (some ⟨g, 1, none⟩), .int .i64 4] 59, .rd 11 (some ⟨g, 0, none⟩) 1 x.cells]) (n := 18) (listed := #[false, false, false, false, false, false, false, false, false, false, false, false, false, false, false, false, false, false]) mixed rfl rfl ?_
             refine ak (v := .agg #[.pointer (some ⟨g, 1, none⟩), .int .i64 4]) 0 rfl S115 (fun _ Sx116 => ylr 2 Sx116 Tryd.underlying59 inf59) ?_
             refine ak (v := .agg #[.pointer (some ⟨g, 2, none⟩), .int .i64 3]) 1 rfl S115 (fun _ Sx117 => ylr 1 Sx117 Tryd.underlying59 inf59) ?_
             refine ak (v := .pointer (some ⟨g, 5, none⟩)) 2 rfl S115 (fun _ _ => ym) ?_
             refine ak (v := .pointer (some ⟨g, 5, none⟩)) 3 rfl S115 (fun _ _ => y_nil rfl rfl trivial) ?_
             refine ak (v := .pointer (some ⟨g, 6, none⟩)) 4 rfl S115 (fun _ _ => yfa _ fa39_1) ?_
             refine ak (v := .agg #[.pointer (some ⟨g, 6, none⟩), .int .i64 3]) 5 rfl S115 (fun _ _ => (y_build (vs := [(0, .pointer (some ⟨g, 6, none⟩)), (1, .int .i64 3)]) rfl ⟨rfl, rfl, rfl, rfl, trivial⟩ (by kernel_rfl))) ?_
             refine ak (v := .pointer (some ⟨g, 5, none⟩)) 6 rfl S115 (fun _ _ => ym) ?_
             refine ak (v := .pointer (some ⟨g, 5, none⟩)) 7 rfl S115 (fun _ _ => y_nil rfl rfl trivial) ?_
             refine ak (v := .pointer (some ⟨g, 7, none⟩)) 8 rfl S115 (fun _ _ => yfa _ fa39_2) ?_
             refine ak (v := .agg #[.pointer (some ⟨g, 7, none⟩), .int .i64 1073741824]) 9 rfl S115 (fun _ _ => (y_build (vs := [(0, .pointer (some ⟨g, 7, none⟩)), (1, .int .i64 1073741824)]) rfl ⟨rfl, rfl, rfl, rfl, trivial⟩ (by kernel_rfl))) ?_
             refine ak (v := .pointer (some ⟨g, 5, none⟩)) 10 rfl S115 (fun _ _ => ym) ?_
             refine ak (v := .pointer (some ⟨g, 5, none⟩)) 11 rfl S115 (fun _ _ => y_nil rfl rfl trivial) ?_
             refine ak (v := .pointer (some ⟨g, 8, none⟩)) 12 rfl S115 (fun _ _ => yfa _ fa39_3) ?_
             refine ak (v := .agg #[.pointer (some ⟨g, 8, none⟩), .int .i64 1000000]) 13 rfl S115 (fun _ _ => (y_build (vs := [(0, .pointer (some ⟨g, 8, none⟩)), (1, .int .i64 1000000)]) rfl ⟨rfl, rfl, rfl, rfl, trivial⟩ (by kernel_rfl))) ?_
             refine ak (v := .string ⟨#[112, 117, 98, 108, 105, 115, 104]⟩) 15 rfl S115 (fun _ _ => ya) ?_
             refine aq1 14 ?_
             refine wN_new (i := 14) rfl rfl (V := fun b => .slice (some ⟨b, 0, none⟩) 5 5) (row := #[.pointer (some ⟨g, 1, none⟩), .int .i64 4, .pointer (some ⟨g, 2, none⟩), .int .i64 3, .pointer (some ⟨g, 6, none⟩), .int .i64 3, .pointer (some ⟨g, 7, none⟩), .int .i64 1073741824, .pointer (some ⟨g, 8, none⟩), .int .i64 1000000]) (t := 59) S115 (wn rfl) rfl rfl (d_buildSlice (vs := [(0, .agg #[.pointer (some ⟨g, 1, none⟩), .int .i64 4]), (1, .agg #[.pointer (some ⟨g, 2, none⟩), .int .i64 3]), (2, .agg #[.pointer (some ⟨g, 6, none⟩), .int .i64 3]), (3, .agg #[.pointer (some ⟨g, 7, none⟩), .int .i64 1073741824]), (4, .agg #[.pointer (some ⟨g, 8, none⟩), .int .i64 1000000])]) rfl ⟨rfl, rfl, rfl, rfl, rfl, rfl, rfl, rfl, rfl, rfl, trivial⟩ (by kernel_rfl)) ?_; intro b131 w132 S133; clear S115
             refine ⟨(St.del 0 S133), ?_⟩
             refine ak (v := .slice (some ⟨b131, 0, none⟩) 5 5) 16 rfl (St.del 0 S133) (fun _ _ => ya) ?_
             refine ak (v := .bool true) 17 rfl (St.del 0 S133) (fun _ _ => ya) ?_
             refine wA_done (by kernel_rfl) ?_
             refine pk [2, 3, 4] ?_
             refine wQ_then (wC_ret (wQ_blk_ret (wQ_blk_ret (wQ_then_ret (wQ_post (rs := [.tmp 2, .tmp 3, .tmp 4]) (vs := [.string ⟨#[112, 117, 98, 108, 105, 115, 104]⟩, .slice (some ⟨b131, 0, none⟩) 5 5, .bool true]) rfl ⟨rfl, rfl, rfl, trivial⟩ ?_)))))
             rw [show wordOf x.kd x.ek = ⟨#[112, 117, 98, 108, 105, 115, 104]⟩ from by simp [wordOf, h25, h36, h47, h57, h67, h81, h91, h101, h111, h113, h114]]
             have S136 : St _ _ _ [_] := S133.dels [4, 3, 2, 1]; clear S133
             rw [show formL x.kd x.ek = some [(1, 4), (2, 3), (6, 3), (7, 1073741824), (8, 1000000)] from by simp [formL, h25, h36, h47, h57, h67, h81, h91, h101, h111, h113, h114]]
             exact ⟨_, rfl, St.blkRdo (n := 5) (xs := ([(1, 4), (2, 3), (6, 3), (7, 1073741824), (8, 1000000)] : List (Nat × Int)).flatMap (slotCells g)) 0 S136 rfl rfl rfl⟩
            ·refine vv (yeqlF h114) ?_
             refine va ?_
             refine qk [2, 3, 4, 5, 6, 8, 73, 74] ?_
             refine x_tnsr ?_
             by_cases h137 : x.ek = 2
             ·refine vv (yeqlT h137) ?_
              refine va ?_
              refine qk [2, 3, 4, 5, 6, 8, 73, 91] ?_
              refine wQ_then (wC_cond_t rfl (wC_seq ?_))
              have S138 := S24.drew; clear S24
              refine wC_any_ (C := fun w' => St w.heap.size w w' [.blk b20 #[.pointer (some ⟨g, 3, none⟩), .int .i64 1048576] 59, .blk b13 #[.pointer (some ⟨g, 2, none⟩), .int .i64 3] 59, .blk b10 #[.pointer (some ⟨g, 1, none⟩), .int .i64 4] 59, .rd 11 (some ⟨g, 0, none⟩) 1 x.cells]) (n := 6) (listed := #[false, false, false, false, false, false]) mixed rfl rfl ?_
              refine ak (v := .agg #[.pointer (some ⟨g, 1, none⟩), .int .i64 4]) 0 rfl S138 (fun _ Sx139 => ylr 2 Sx139 Tryd.underlying59 inf59) ?_
              refine ak (v := .agg #[.pointer (some ⟨g, 2, none⟩), .int .i64 3]) 1 rfl S138 (fun _ Sx140 => ylr 1 Sx140 Tryd.underlying59 inf59) ?_
              refine ak (v := .string ⟨#[114, 101, 99, 101, 105, 118, 101]⟩) 3 rfl S138 (fun _ _ => ya) ?_
              refine aq1 2 ?_
              refine wN_new (i := 2) rfl rfl (V := fun b => .slice (some ⟨b, 0, none⟩) 2 2) (row := #[.pointer (some ⟨g, 1, none⟩), .int .i64 4, .pointer (some ⟨g, 2, none⟩), .int .i64 3]) (t := 59) S138 (wn rfl) rfl rfl (d_buildSlice (vs := [(0, .agg #[.pointer (some ⟨g, 1, none⟩), .int .i64 4]), (1, .agg #[.pointer (some ⟨g, 2, none⟩), .int .i64 3])]) rfl ⟨rfl, rfl, rfl, rfl, trivial⟩ (by kernel_rfl)) ?_; intro b142 w143 S144; clear S138
              refine ⟨(St.del 0 S144), ?_⟩
              refine ak (v := .slice (some ⟨b142, 0, none⟩) 2 2) 4 rfl (St.del 0 S144) (fun _ _ => ya) ?_
              refine ak (v := .bool true) 5 rfl (St.del 0 S144) (fun _ _ => ya) ?_
              refine wA_done (by kernel_rfl) ?_
              refine pk [2, 3, 4] ?_
              refine wQ_then (wC_ret (wQ_blk_ret (wQ_blk_ret (wQ_then_ret (wQ_post (rs := [.tmp 2, .tmp 3, .tmp 4]) (vs := [.string ⟨#[114, 101, 99, 101, 105, 118, 101]⟩, .slice (some ⟨b142, 0, none⟩) 2 2, .bool true]) rfl ⟨rfl, rfl, rfl, trivial⟩ ?_)))))
              rw [show wordOf x.kd x.ek = ⟨#[114, 101, 99, 101, 105, 118, 101]⟩ from by simp [wordOf, h25, h36, h47, h57, h67, h81, h91, h101, h111, h113, h114, h137]]
              have S147 : St _ _ _ [_] := S144.dels [4, 3, 2, 1]; clear S144
              rw [show formL x.kd x.ek = some [(1, 4), (2, 3)] from by simp [formL, h25, h36, h47, h57, h67, h81, h91, h101, h111, h113, h114, h137]]
              exact ⟨_, rfl, St.blkRdo (n := 2) (xs := ([(1, 4), (2, 3)] : List (Nat × Int)).flatMap (slotCells g)) 0 S147 rfl rfl rfl⟩
             ·refine vv (yeqlF h137) ?_
              refine va ?_
              refine qk [2, 3, 4, 5, 6, 8, 73, 91] ?_
              refine x_tnsr ?_
              by_cases h148 : x.ek = 3
              ·refine vv (yeqlT h148) ?_
               refine va ?_
               refine qk [2, 3, 4, 5, 6, 8, 96] ?_
               refine wQ_then (wC_cond_t rfl (wC_seq ?_))
               have S149 := S24.drew; clear S24
               refine wC_any_ (C := fun w' => St w.heap.size w w' [.blk b20 #[.pointer (some ⟨g, 3, none⟩), .int .i64 1048576] 59, .blk b13 #[.pointer (some ⟨g, 2, none⟩), .int .i64 3] 59, .blk b10 #[.pointer (some ⟨g, 1, none⟩), .int .i64 4] 59, .rd 11 (some ⟨g, 0, none⟩) 1 x.cells]) (n := 16) (listed := #[false, false, false, false, false, false, false, false, false, false, false, false, false, false, false, false]) mixed rfl rfl ?_
               refine ak (v := .agg #[.pointer (some ⟨g, 1, none⟩), .int .i64 4]) 0 rfl S149 (fun _ Sx150 => ylr 2 Sx150 Tryd.underlying59 inf59) ?_
               refine ak (v := .agg #[.pointer (some ⟨g, 2, none⟩), .int .i64 3]) 1 rfl S149 (fun _ Sx151 => ylr 1 Sx151 Tryd.underlying59 inf59) ?_
               refine ak (v := .pointer (some ⟨g, 5, none⟩)) 2 rfl S149 (fun _ _ => ym) ?_
               refine ak (v := .pointer (some ⟨g, 5, none⟩)) 3 rfl S149 (fun _ _ => y_nil rfl rfl trivial) ?_
               refine ak (v := .pointer (some ⟨g, 9, none⟩)) 4 rfl S149 (fun _ _ => yfa _ fa39_4) ?_
               refine ak (v := .pointer (some ⟨g, 9, none⟩)) 5 rfl S149 (fun _ _ => yfa _ fa37_0) ?_
               refine ak (v := .agg #[.pointer (some ⟨g, 9, none⟩), .int .i64 1048576]) 6 rfl S149 (fun _ _ => (y_build (vs := [(0, .pointer (some ⟨g, 9, none⟩)), (1, .int .i64 1048576)]) rfl ⟨rfl, rfl, rfl, rfl, trivial⟩ (by kernel_rfl))) ?_
               refine ak (v := .pointer (some ⟨g, 5, none⟩)) 7 rfl S149 (fun _ _ => ym) ?_
               refine ak (v := .pointer (some ⟨g, 5, none⟩)) 8 rfl S149 (fun _ _ => y_nil rfl rfl trivial) ?_
               refine ak (v := .pointer (some ⟨g, 9, none⟩)) 9 rfl S149 (fun _ _ => yfa _ fa39_4) ?_
               refine ak (v := .pointer (some ⟨g, 10, none⟩)) 10 rfl S149 (fun _ _ => yfa _ fa37_1) ?_
               refine ak (v := .agg #[.pointer (some ⟨g, 10, none⟩), .int .i64 1073741824]) 11 rfl S149 (fun _ _ => (y_build (vs := [(0, .pointer (some ⟨g, 10, none⟩)), (1, .int .i64 1073741824)]) rfl ⟨rfl, rfl, rfl, rfl, trivial⟩ (by kernel_rfl))) ?_
               refine ak (v := .string ⟨#[97, 99, 107]⟩) 13 rfl S149 (fun _ _ => ya) ?_
               refine aq1 12 ?_
               refine wN_new (i := 12) rfl rfl (V := fun b => .slice (some ⟨b, 0, none⟩) 4 4) (row := #[.pointer (some ⟨g, 1, none⟩), .int .i64 4, .pointer (some ⟨g, 2, none⟩), .int .i64 3, .pointer (some ⟨g, 9, none⟩), .int .i64 1048576, .pointer (some ⟨g, 10, none⟩), .int .i64 1073741824]) (t := 59) S149 (wn rfl) rfl rfl (d_buildSlice (vs := [(0, .agg #[.pointer (some ⟨g, 1, none⟩), .int .i64 4]), (1, .agg #[.pointer (some ⟨g, 2, none⟩), .int .i64 3]), (2, .agg #[.pointer (some ⟨g, 9, none⟩), .int .i64 1048576]), (3, .agg #[.pointer (some ⟨g, 10, none⟩), .int .i64 1073741824])]) rfl ⟨rfl, rfl, rfl, rfl, rfl, rfl, rfl, rfl, trivial⟩ (by kernel_rfl)) ?_; intro b163 w164 S165; clear S149
               refine ⟨(St.del 0 S165), ?_⟩
               refine ak (v := .slice (some ⟨b163, 0, none⟩) 4 4) 14 rfl (St.del 0 S165) (fun _ _ => ya) ?_
               refine ak (v := .bool true) 15 rfl (St.del 0 S165) (fun _ _ => ya) ?_
               refine wA_done (by kernel_rfl) ?_
               refine pk [2, 3, 4] ?_
               refine wQ_then (wC_ret (wQ_blk_ret (wQ_blk_ret (wQ_then_ret (wQ_post (rs := [.tmp 2, .tmp 3, .tmp 4]) (vs := [.string ⟨#[97, 99, 107]⟩, .slice (some ⟨b163, 0, none⟩) 4 4, .bool true]) rfl ⟨rfl, rfl, rfl, trivial⟩ ?_)))))
               rw [show wordOf x.kd x.ek = ⟨#[97, 99, 107]⟩ from by simp [wordOf, h25, h36, h47, h57, h67, h81, h91, h101, h111, h113, h114, h137, h148]]
               have S168 : St _ _ _ [_] := S165.dels [4, 3, 2, 1]; clear S165
               rw [show formL x.kd x.ek = some [(1, 4), (2, 3), (9, 1048576), (10, 1073741824)] from by simp [formL, h25, h36, h47, h57, h67, h81, h91, h101, h111, h113, h114, h137, h148]]
               exact ⟨_, rfl, St.blkRdo (n := 4) (xs := ([(1, 4), (2, 3), (9, 1048576), (10, 1073741824)] : List (Nat × Int)).flatMap (slotCells g)) 0 S168 rfl rfl rfl⟩
              ·refine vv (yeqlF h148) ?_
               refine va ?_
               refine qk [2, 3, 4, 5, 6, 8, 96] ?_
               refine wQ_then (wC_cond_f rfl (wC_skip (wQ_blk_n (wQ_blk_n (wQ_then (wC_seq (wC_region (va ?_))))))))
               iterate 2 refine va ?_
               refine qk [2, 3, 4] ?_
               refine x_te (wQ_post (rs := [.tmp 2, .tmp 3, .tmp 4]) (vs := [.string ⟨#[]⟩, .slice none 0 0, .bool false]) rfl ⟨rfl, rfl, rfl, trivial⟩ ?_)
               rw [show wordOf x.kd x.ek = ⟨#[]⟩ from by simp [wordOf, h25, h36, h47, h57, h67, h81, h91, h101, h111, h113, h114, h137, h148]]
               rw [show formL x.kd x.ek = none from by simp [formL, h25, h36, h47, h57, h67, h81, h91, h101, h111, h113, h114, h137, h148]]
               exact ⟨rfl, S24.low⟩
           ·refine vv (yeqlF h113) ?_
            refine va ?_
            refine qk [0, 2, 3, 4, 5, 6, 65] ?_
            refine wQ_then (wC_cond_f rfl (wC_skip (wQ_blk_n (wQ_then (wC_seq (wC_region (va ?_)))))))
            iterate 2 refine va ?_
            refine qk [2, 3, 4] ?_
            refine x_te (wQ_post (rs := [.tmp 2, .tmp 3, .tmp 4]) (vs := [.string ⟨#[]⟩, .slice none 0 0, .bool false]) rfl ⟨rfl, rfl, rfl, trivial⟩ ?_)
            rw [show wordOf x.kd x.ek = ⟨#[]⟩ from by simp [wordOf, h25, h36, h47, h57, h67, h81, h91, h101, h111, h113]]
            rw [show formL x.kd x.ek = none from by simp [formL, h25, h36, h47, h57, h67, h81, h91, h101, h111, h113]]
            exact ⟨rfl, S24.low⟩
 ·refine nna (row := #[.pointer none, .int .i64 0]) 9 rfl S1 Tryd.zeroValue59 ?_; intro b169 w170 S171; clear S1
  refine ⟨(St.del 0 S171), ?_⟩
  refine aq1 8 ?_
  refine nna (row := #[.pointer none, .int .i64 0]) 8 rfl S171 Tryd.zeroValue59 ?_; intro b172 w173 S174; clear S171
  refine ⟨(S174.dels [1, 0]), ?_⟩
  refine aq1 10 ?_
  refine sn 10 rfl 0 S174 inf59 ?_; intro w175 S176; clear S174
  refine ⟨(S176.dels [1, 0]), ?_⟩
  refine aq1 11 ?_
  refine sn 11 rfl 1 S176 inf59 ?_; intro w177 S178; clear S176
  refine ⟨(S178.dels [1, 0]), ?_⟩
  refine wA_done (by kernel_rfl) ?_
  refine pk [0, 2, 3, 4, 6, 5] ?_
  refine x_tsr (vm ?_)
  refine vv (y_nil rfl rfl trivial) ?_
  refine vv (yfa 3 fa41_3) ?_
  refine vv (v := .agg #[.pointer (some ⟨g, 3, none⟩), .int .i64 1048576]) (y_build (vs := [(0, .pointer (some ⟨g, 3, none⟩)), (1, .int .i64 1048576)]) rfl ⟨rfl, rfl, rfl, rfl, trivial⟩ (by kernel_rfl)) ?_
  refine na (row := #[.pointer none, .int .i64 0]) S178 Tryd.zeroValue59 ?_; intro b179 w180 S181; clear S178
  refine sa 0 S181 inf59 ?_; intro w182 S183; clear S181
  refine qk [0, 2, 3, 4, 6, 5, 7] ?_
  refine x_tssr (vm ?_)
  refine vv (y_nil rfl rfl trivial) ?_
  refine vv (yfa 0 fa41_0) ?_
  refine vv (v := .int .i64 x.kd) (y_load rfl rfl (r_load Tryd.underlying3 rfl (Rd.cl (j := 0) (St.rd 3 S183 rfl) rfl))) ?_
  refine qk [0, 2, 3, 4, 6, 5, 7, 24] ?_
  refine x_tbsr ?_
  by_cases h184 : x.kd = 1
  ·refine vv (yeqlT h184) ?_
   refine va ?_
   refine qk [0, 2, 3, 4, 6, 5, 7, 24, 25] ?_
   refine wQ_then (wC_cond_t rfl (wC_seq ?_))
   have S185 := S183.drew; clear S183
   refine wC_any_ (C := fun w' => St w.heap.size w w' [.blk b179 #[.pointer (some ⟨g, 3, none⟩), .int .i64 1048576] 59, .blk b172 #[.pointer (some ⟨g, 1, none⟩), .int .i64 4] 59, .blk b169 #[.pointer (some ⟨g, 2, none⟩), .int .i64 3] 59, .rd 11 (some ⟨g, 0, none⟩) 1 x.cells]) (n := 6) (listed := #[false, false, false, false, false, false]) mixed rfl rfl ?_
   refine ak (v := .agg #[.pointer (some ⟨g, 2, none⟩), .int .i64 3]) 0 rfl S185 (fun _ Sx186 => ylr 2 Sx186 Tryd.underlying59 inf59) ?_
   refine ak (v := .agg #[.pointer (some ⟨g, 1, none⟩), .int .i64 4]) 1 rfl S185 (fun _ Sx187 => ylr 1 Sx187 Tryd.underlying59 inf59) ?_
   refine ak (v := .string ⟨#[109, 97, 107, 101]⟩) 3 rfl S185 (fun _ _ => ya) ?_
   refine aq1 2 ?_
   refine wN_new (i := 2) rfl rfl (V := fun b => .slice (some ⟨b, 0, none⟩) 2 2) (row := #[.pointer (some ⟨g, 2, none⟩), .int .i64 3, .pointer (some ⟨g, 1, none⟩), .int .i64 4]) (t := 59) S185 (wn rfl) rfl rfl (d_buildSlice (vs := [(0, .agg #[.pointer (some ⟨g, 2, none⟩), .int .i64 3]), (1, .agg #[.pointer (some ⟨g, 1, none⟩), .int .i64 4])]) rfl ⟨rfl, rfl, rfl, rfl, trivial⟩ (by kernel_rfl)) ?_; intro b189 w190 S191; clear S185
   refine ⟨(St.del 0 S191), ?_⟩
   refine ak (v := .slice (some ⟨b189, 0, none⟩) 2 2) 4 rfl (St.del 0 S191) (fun _ _ => ya) ?_
   refine ak (v := .bool true) 5 rfl (St.del 0 S191) (fun _ _ => ya) ?_
   refine wA_done (by kernel_rfl) ?_
   refine pk [2, 3, 4] ?_
   refine x_tech (wQ_post (rs := [.tmp 2, .tmp 3, .tmp 4]) (vs := [.string ⟨#[109, 97, 107, 101]⟩, .slice (some ⟨b189, 0, none⟩) 2 2, .bool true]) rfl ⟨rfl, rfl, rfl, trivial⟩ ?_)
   rw [show wordOf x.kd x.ek = ⟨#[109, 97, 107, 101]⟩ from by simp [wordOf, h184]]
   have S194 : St _ _ _ [_] := S191.dels [4, 3, 2, 1]; clear S191
   rw [show formL x.kd x.ek = some [(2, 3), (1, 4)] from by simp [formL, h184]]
   exact ⟨_, rfl, St.blkRdo (n := 2) (xs := ([(2, 3), (1, 4)] : List (Nat × Int)).flatMap (slotCells g)) 0 S194 rfl rfl rfl⟩
  ·refine vv (yeqlF h184) ?_
   refine va ?_
   refine qk [0, 2, 3, 4, 6, 5, 7, 24, 25] ?_
   refine x_tnsr ?_
   by_cases h195 : x.kd = 10
   ·refine vv (yeqlT h195) ?_
    refine va ?_
    refine qk [0, 2, 3, 4, 6, 5, 7, 24, 30] ?_
    refine wQ_then (wC_cond_t rfl (wC_seq ?_))
    have S196 := S183.drew; clear S183
    refine wC_any_ (C := fun w' => St w.heap.size w w' [.blk b179 #[.pointer (some ⟨g, 3, none⟩), .int .i64 1048576] 59, .blk b172 #[.pointer (some ⟨g, 1, none⟩), .int .i64 4] 59, .blk b169 #[.pointer (some ⟨g, 2, none⟩), .int .i64 3] 59, .rd 11 (some ⟨g, 0, none⟩) 1 x.cells]) (n := 6) (listed := #[false, false, false, false, false, false]) mixed rfl rfl ?_
    refine ak (v := .agg #[.pointer (some ⟨g, 2, none⟩), .int .i64 3]) 0 rfl S196 (fun _ Sx197 => ylr 2 Sx197 Tryd.underlying59 inf59) ?_
    refine ak (v := .agg #[.pointer (some ⟨g, 1, none⟩), .int .i64 4]) 1 rfl S196 (fun _ Sx198 => ylr 1 Sx198 Tryd.underlying59 inf59) ?_
    refine ak (v := .string ⟨#[109, 111, 118, 101]⟩) 3 rfl S196 (fun _ _ => ya) ?_
    refine aq1 2 ?_
    refine wN_new (i := 2) rfl rfl (V := fun b => .slice (some ⟨b, 0, none⟩) 2 2) (row := #[.pointer (some ⟨g, 2, none⟩), .int .i64 3, .pointer (some ⟨g, 1, none⟩), .int .i64 4]) (t := 59) S196 (wn rfl) rfl rfl (d_buildSlice (vs := [(0, .agg #[.pointer (some ⟨g, 2, none⟩), .int .i64 3]), (1, .agg #[.pointer (some ⟨g, 1, none⟩), .int .i64 4])]) rfl ⟨rfl, rfl, rfl, rfl, trivial⟩ (by kernel_rfl)) ?_; intro b200 w201 S202; clear S196
    refine ⟨(St.del 0 S202), ?_⟩
    refine ak (v := .slice (some ⟨b200, 0, none⟩) 2 2) 4 rfl (St.del 0 S202) (fun _ _ => ya) ?_
    refine ak (v := .bool true) 5 rfl (St.del 0 S202) (fun _ _ => ya) ?_
    refine wA_done (by kernel_rfl) ?_
    refine pk [2, 3, 4] ?_
    refine x_tech (wQ_post (rs := [.tmp 2, .tmp 3, .tmp 4]) (vs := [.string ⟨#[109, 111, 118, 101]⟩, .slice (some ⟨b200, 0, none⟩) 2 2, .bool true]) rfl ⟨rfl, rfl, rfl, trivial⟩ ?_)
    rw [show wordOf x.kd x.ek = ⟨#[109, 111, 118, 101]⟩ from by simp [wordOf, h184, h195]]
    have S205 : St _ _ _ [_] := S202.dels [4, 3, 2, 1]; clear S202
    rw [show formL x.kd x.ek = some [(2, 3), (1, 4)] from by simp [formL, h184, h195]]
    exact ⟨_, rfl, St.blkRdo (n := 2) (xs := ([(2, 3), (1, 4)] : List (Nat × Int)).flatMap (slotCells g)) 0 S205 rfl rfl rfl⟩
   ·refine vv (yeqlF h195) ?_
    refine va ?_
    refine qk [0, 2, 3, 4, 6, 5, 7, 24, 30] ?_
    refine x_tnsr ?_
    by_cases h206 : x.kd = 3
    ·refine vv (yeqlT h206) ?_
     refine va ?_
     refine qk [0, 2, 3, 4, 6, 5, 7, 24, 35] ?_
     refine wQ_then (wC_cond_t rfl (wC_seq ?_))
     have S207 := S183.drew; clear S183
     refine wC_any_ (C := fun w' => St w.heap.size w w' [.blk b179 #[.pointer (some ⟨g, 3, none⟩), .int .i64 1048576] 59, .blk b172 #[.pointer (some ⟨g, 1, none⟩), .int .i64 4] 59, .blk b169 #[.pointer (some ⟨g, 2, none⟩), .int .i64 3] 59, .rd 11 (some ⟨g, 0, none⟩) 1 x.cells]) (n := 5) (listed := #[false, false, false, false, false]) mixed rfl rfl ?_
     refine ak (v := .agg #[.pointer (some ⟨g, 1, none⟩), .int .i64 4]) 0 rfl S207 (fun _ Sx208 => ylr 1 Sx208 Tryd.underlying59 inf59) ?_
     refine ak (v := .string ⟨#[115, 116, 101, 112]⟩) 2 rfl S207 (fun _ _ => ya) ?_
     refine aq1 1 ?_
     refine wN_new (i := 1) rfl rfl (V := fun b => .slice (some ⟨b, 0, none⟩) 1 1) (row := #[.pointer (some ⟨g, 1, none⟩), .int .i64 4]) (t := 59) S207 (wn rfl) rfl rfl (d_buildSlice (vs := [(0, .agg #[.pointer (some ⟨g, 1, none⟩), .int .i64 4])]) rfl ⟨rfl, rfl, trivial⟩ (by kernel_rfl)) ?_; intro b210 w211 S212; clear S207
     refine ⟨(St.del 0 S212), ?_⟩
     refine ak (v := .slice (some ⟨b210, 0, none⟩) 1 1) 3 rfl (St.del 0 S212) (fun _ _ => ya) ?_
     refine ak (v := .bool true) 4 rfl (St.del 0 S212) (fun _ _ => ya) ?_
     refine wA_done (by kernel_rfl) ?_
     refine pk [2, 3, 4] ?_
     refine x_tech (wQ_post (rs := [.tmp 2, .tmp 3, .tmp 4]) (vs := [.string ⟨#[115, 116, 101, 112]⟩, .slice (some ⟨b210, 0, none⟩) 1 1, .bool true]) rfl ⟨rfl, rfl, rfl, trivial⟩ ?_)
     rw [show wordOf x.kd x.ek = ⟨#[115, 116, 101, 112]⟩ from by simp [wordOf, h184, h195, h206]]
     have S215 : St _ _ _ [_] := S212.dels [4, 3, 2, 1]; clear S212
     rw [show formL x.kd x.ek = some [(1, 4)] from by simp [formL, h184, h195, h206]]
     exact ⟨_, rfl, St.blkRdo (n := 1) (xs := ([(1, 4)] : List (Nat × Int)).flatMap (slotCells g)) 0 S215 rfl rfl rfl⟩
    ·refine vv (yeqlF h206) ?_
     refine va ?_
     refine qk [0, 2, 3, 4, 6, 5, 7, 24, 35] ?_
     refine x_tnsr ?_
     by_cases h216 : x.kd = 9
     ·refine vv (yeqlT h216) ?_
      refine va ?_
      refine qk [0, 2, 3, 4, 6, 5, 7, 24, 39] ?_
      refine wQ_then (wC_cond_t rfl (wC_seq ?_))
      have S217 := S183.drew; clear S183
      refine wC_any_ (C := fun w' => St w.heap.size w w' [.blk b179 #[.pointer (some ⟨g, 3, none⟩), .int .i64 1048576] 59, .blk b172 #[.pointer (some ⟨g, 1, none⟩), .int .i64 4] 59, .blk b169 #[.pointer (some ⟨g, 2, none⟩), .int .i64 3] 59, .rd 11 (some ⟨g, 0, none⟩) 1 x.cells]) (n := 5) (listed := #[false, false, false, false, false]) mixed rfl rfl ?_
      refine ak (v := .agg #[.pointer (some ⟨g, 1, none⟩), .int .i64 4]) 0 rfl S217 (fun _ Sx218 => ylr 1 Sx218 Tryd.underlying59 inf59) ?_
      refine ak (v := .string ⟨#[115, 116, 97, 114, 116]⟩) 2 rfl S217 (fun _ _ => ya) ?_
      refine aq1 1 ?_
      refine wN_new (i := 1) rfl rfl (V := fun b => .slice (some ⟨b, 0, none⟩) 1 1) (row := #[.pointer (some ⟨g, 1, none⟩), .int .i64 4]) (t := 59) S217 (wn rfl) rfl rfl (d_buildSlice (vs := [(0, .agg #[.pointer (some ⟨g, 1, none⟩), .int .i64 4])]) rfl ⟨rfl, rfl, trivial⟩ (by kernel_rfl)) ?_; intro b220 w221 S222; clear S217
      refine ⟨(St.del 0 S222), ?_⟩
      refine ak (v := .slice (some ⟨b220, 0, none⟩) 1 1) 3 rfl (St.del 0 S222) (fun _ _ => ya) ?_
      refine ak (v := .bool true) 4 rfl (St.del 0 S222) (fun _ _ => ya) ?_
      refine wA_done (by kernel_rfl) ?_
      refine pk [2, 3, 4] ?_
      refine x_tech (wQ_post (rs := [.tmp 2, .tmp 3, .tmp 4]) (vs := [.string ⟨#[115, 116, 97, 114, 116]⟩, .slice (some ⟨b220, 0, none⟩) 1 1, .bool true]) rfl ⟨rfl, rfl, rfl, trivial⟩ ?_)
      rw [show wordOf x.kd x.ek = ⟨#[115, 116, 97, 114, 116]⟩ from by simp [wordOf, h184, h195, h206, h216]]
      have S225 : St _ _ _ [_] := S222.dels [4, 3, 2, 1]; clear S222
      rw [show formL x.kd x.ek = some [(1, 4)] from by simp [formL, h184, h195, h206, h216]]
      exact ⟨_, rfl, St.blkRdo (n := 1) (xs := ([(1, 4)] : List (Nat × Int)).flatMap (slotCells g)) 0 S225 rfl rfl rfl⟩
     ·refine vv (yeqlF h216) ?_
      refine va ?_
      refine qk [0, 2, 3, 4, 6, 5, 7, 24, 39] ?_
      refine x_tnsr ?_
      by_cases h226 : x.kd = 8
      ·refine vv (yeqlT h226) ?_
       refine va ?_
       refine qk [0, 2, 3, 4, 6, 5, 7, 24, 43] ?_
       refine wQ_then (wC_cond_t rfl (wC_seq ?_))
       have S227 := S183.drew; clear S183
       refine wC_any_ (C := fun w' => St w.heap.size w w' [.blk b179 #[.pointer (some ⟨g, 3, none⟩), .int .i64 1048576] 59, .blk b172 #[.pointer (some ⟨g, 1, none⟩), .int .i64 4] 59, .blk b169 #[.pointer (some ⟨g, 2, none⟩), .int .i64 3] 59, .rd 11 (some ⟨g, 0, none⟩) 1 x.cells]) (n := 9) (listed := #[false, false, false, false, false, false, false, false, false]) mixed rfl rfl ?_
       refine ak (v := .agg #[.pointer (some ⟨g, 1, none⟩), .int .i64 4]) 0 rfl S227 (fun _ Sx228 => ylr 1 Sx228 Tryd.underlying59 inf59) ?_
       refine ak (v := .pointer (some ⟨g, 0, none⟩)) 1 rfl S227 (fun _ _ => ym) ?_
       refine ak (v := .pointer (some ⟨g, 0, none⟩)) 2 rfl S227 (fun _ _ => y_nil rfl rfl trivial) ?_
       refine ak (v := .pointer (some ⟨g, 4, none⟩)) 3 rfl S227 (fun _ _ => yfa _ fa41_4) ?_
       refine ak (v := .agg #[.pointer (some ⟨g, 4, none⟩), .int .i64 100000]) 4 rfl S227 (fun _ _ => (y_build (vs := [(0, .pointer (some ⟨g, 4, none⟩)), (1, .int .i64 100000)]) rfl ⟨rfl, rfl, rfl, rfl, trivial⟩ (by kernel_rfl))) ?_
       refine ak (v := .string ⟨#[99, 114, 97, 115, 104]⟩) 6 rfl S227 (fun _ _ => ya) ?_
       refine aq1 5 ?_
       refine wN_new (i := 5) rfl rfl (V := fun b => .slice (some ⟨b, 0, none⟩) 2 2) (row := #[.pointer (some ⟨g, 1, none⟩), .int .i64 4, .pointer (some ⟨g, 4, none⟩), .int .i64 100000]) (t := 59) S227 (wn rfl) rfl rfl (d_buildSlice (vs := [(0, .agg #[.pointer (some ⟨g, 1, none⟩), .int .i64 4]), (1, .agg #[.pointer (some ⟨g, 4, none⟩), .int .i64 100000])]) rfl ⟨rfl, rfl, rfl, rfl, trivial⟩ (by kernel_rfl)) ?_; intro b234 w235 S236; clear S227
       refine ⟨(St.del 0 S236), ?_⟩
       refine ak (v := .slice (some ⟨b234, 0, none⟩) 2 2) 7 rfl (St.del 0 S236) (fun _ _ => ya) ?_
       refine ak (v := .bool true) 8 rfl (St.del 0 S236) (fun _ _ => ya) ?_
       refine wA_done (by kernel_rfl) ?_
       refine pk [2, 3, 4] ?_
       refine x_tech (wQ_post (rs := [.tmp 2, .tmp 3, .tmp 4]) (vs := [.string ⟨#[99, 114, 97, 115, 104]⟩, .slice (some ⟨b234, 0, none⟩) 2 2, .bool true]) rfl ⟨rfl, rfl, rfl, trivial⟩ ?_)
       rw [show wordOf x.kd x.ek = ⟨#[99, 114, 97, 115, 104]⟩ from by simp [wordOf, h184, h195, h206, h216, h226]]
       have S239 : St _ _ _ [_] := S236.dels [4, 3, 2, 1]; clear S236
       rw [show formL x.kd x.ek = some [(1, 4), (4, 100000)] from by simp [formL, h184, h195, h206, h216, h226]]
       exact ⟨_, rfl, St.blkRdo (n := 2) (xs := ([(1, 4), (4, 100000)] : List (Nat × Int)).flatMap (slotCells g)) 0 S239 rfl rfl rfl⟩
      ·refine vv (yeqlF h226) ?_
       refine va ?_
       refine qk [0, 2, 3, 4, 6, 5, 7, 24, 43] ?_
       refine x_tnsr ?_
       by_cases h240 : x.kd = 4
       ·refine vv (yeqlT h240) ?_
        refine va ?_
        refine qk [0, 2, 3, 4, 6, 5, 7, 24, 51] ?_
        refine wQ_then (wC_cond_t rfl (wC_seq ?_))
        have S241 := S183.drew; clear S183
        refine wC_any_ (C := fun w' => St w.heap.size w w' [.blk b179 #[.pointer (some ⟨g, 3, none⟩), .int .i64 1048576] 59, .blk b172 #[.pointer (some ⟨g, 1, none⟩), .int .i64 4] 59, .blk b169 #[.pointer (some ⟨g, 2, none⟩), .int .i64 3] 59, .rd 11 (some ⟨g, 0, none⟩) 1 x.cells]) (n := 5) (listed := #[false, false, false, false, false]) mixed rfl rfl ?_
        refine ak (v := .agg #[.pointer (some ⟨g, 3, none⟩), .int .i64 1048576]) 0 rfl S241 (fun _ Sx242 => ylr 0 Sx242 Tryd.underlying59 inf59) ?_
        refine ak (v := .string ⟨#[99, 97, 114, 114, 121]⟩) 2 rfl S241 (fun _ _ => ya) ?_
        refine aq1 1 ?_
        refine wN_new (i := 1) rfl rfl (V := fun b => .slice (some ⟨b, 0, none⟩) 1 1) (row := #[.pointer (some ⟨g, 3, none⟩), .int .i64 1048576]) (t := 59) S241 (wn rfl) rfl rfl (d_buildSlice (vs := [(0, .agg #[.pointer (some ⟨g, 3, none⟩), .int .i64 1048576])]) rfl ⟨rfl, rfl, trivial⟩ (by kernel_rfl)) ?_; intro b244 w245 S246; clear S241
        refine ⟨(St.del 0 S246), ?_⟩
        refine ak (v := .slice (some ⟨b244, 0, none⟩) 1 1) 3 rfl (St.del 0 S246) (fun _ _ => ya) ?_
        refine ak (v := .bool true) 4 rfl (St.del 0 S246) (fun _ _ => ya) ?_
        refine wA_done (by kernel_rfl) ?_
        refine pk [2, 3, 4] ?_
        refine x_tech (wQ_post (rs := [.tmp 2, .tmp 3, .tmp 4]) (vs := [.string ⟨#[99, 97, 114, 114, 121]⟩, .slice (some ⟨b244, 0, none⟩) 1 1, .bool true]) rfl ⟨rfl, rfl, rfl, trivial⟩ ?_)
        rw [show wordOf x.kd x.ek = ⟨#[99, 97, 114, 114, 121]⟩ from by simp [wordOf, h184, h195, h206, h216, h226, h240]]
        have S249 : St _ _ _ [_] := S246.dels [4, 3, 2, 1]; clear S246
        rw [show formL x.kd x.ek = some [(3, 1048576)] from by simp [formL, h184, h195, h206, h216, h226, h240]]
        exact ⟨_, rfl, St.blkRdo (n := 1) (xs := ([(3, 1048576)] : List (Nat × Int)).flatMap (slotCells g)) 0 S249 rfl rfl rfl⟩
       ·refine vv (yeqlF h240) ?_
        refine va ?_
        refine qk [0, 2, 3, 4, 6, 5, 7, 24, 51] ?_
        refine x_tnsr ?_
        by_cases h250 : x.kd = 5
        ·refine vv (yeqlT h250) ?_
         refine va ?_
         refine qk [0, 2, 3, 4, 6, 5, 7, 24, 55] ?_
         refine wQ_then (wC_cond_t rfl (wC_seq ?_))
         have S251 := S183.drew; clear S183
         refine wC_any_ (C := fun w' => St w.heap.size w w' [.blk b179 #[.pointer (some ⟨g, 3, none⟩), .int .i64 1048576] 59, .blk b172 #[.pointer (some ⟨g, 1, none⟩), .int .i64 4] 59, .blk b169 #[.pointer (some ⟨g, 2, none⟩), .int .i64 3] 59, .rd 11 (some ⟨g, 0, none⟩) 1 x.cells]) (n := 5) (listed := #[false, false, false, false, false]) mixed rfl rfl ?_
         refine ak (v := .agg #[.pointer (some ⟨g, 3, none⟩), .int .i64 1048576]) 0 rfl S251 (fun _ Sx252 => ylr 0 Sx252 Tryd.underlying59 inf59) ?_
         refine ak (v := .string ⟨#[108, 111, 115, 101]⟩) 2 rfl S251 (fun _ _ => ya) ?_
         refine aq1 1 ?_
         refine wN_new (i := 1) rfl rfl (V := fun b => .slice (some ⟨b, 0, none⟩) 1 1) (row := #[.pointer (some ⟨g, 3, none⟩), .int .i64 1048576]) (t := 59) S251 (wn rfl) rfl rfl (d_buildSlice (vs := [(0, .agg #[.pointer (some ⟨g, 3, none⟩), .int .i64 1048576])]) rfl ⟨rfl, rfl, trivial⟩ (by kernel_rfl)) ?_; intro b254 w255 S256; clear S251
         refine ⟨(St.del 0 S256), ?_⟩
         refine ak (v := .slice (some ⟨b254, 0, none⟩) 1 1) 3 rfl (St.del 0 S256) (fun _ _ => ya) ?_
         refine ak (v := .bool true) 4 rfl (St.del 0 S256) (fun _ _ => ya) ?_
         refine wA_done (by kernel_rfl) ?_
         refine pk [2, 3, 4] ?_
         refine x_tech (wQ_post (rs := [.tmp 2, .tmp 3, .tmp 4]) (vs := [.string ⟨#[108, 111, 115, 101]⟩, .slice (some ⟨b254, 0, none⟩) 1 1, .bool true]) rfl ⟨rfl, rfl, rfl, trivial⟩ ?_)
         rw [show wordOf x.kd x.ek = ⟨#[108, 111, 115, 101]⟩ from by simp [wordOf, h184, h195, h206, h216, h226, h240, h250]]
         have S259 : St _ _ _ [_] := S256.dels [4, 3, 2, 1]; clear S256
         rw [show formL x.kd x.ek = some [(3, 1048576)] from by simp [formL, h184, h195, h206, h216, h226, h240, h250]]
         exact ⟨_, rfl, St.blkRdo (n := 1) (xs := ([(3, 1048576)] : List (Nat × Int)).flatMap (slotCells g)) 0 S259 rfl rfl rfl⟩
        ·refine vv (yeqlF h250) ?_
         refine va ?_
         refine qk [0, 2, 3, 4, 6, 5, 7, 24, 55] ?_
         refine x_tnsr ?_
         by_cases h260 : x.kd = 6
         ·refine vv (yeqlT h260) ?_
          refine va ?_
          refine qk [0, 2, 3, 4, 6, 5, 7, 24, 59] ?_
          refine wQ_then (wC_cond_t rfl (wC_seq ?_))
          have S261 := S183.drew; clear S183
          refine wC_any_ (C := fun w' => St w.heap.size w w' [.blk b179 #[.pointer (some ⟨g, 3, none⟩), .int .i64 1048576] 59, .blk b172 #[.pointer (some ⟨g, 1, none⟩), .int .i64 4] 59, .blk b169 #[.pointer (some ⟨g, 2, none⟩), .int .i64 3] 59, .rd 11 (some ⟨g, 0, none⟩) 1 x.cells]) (n := 5) (listed := #[false, false, false, false, false]) mixed rfl rfl ?_
          refine ak (v := .agg #[.pointer (some ⟨g, 3, none⟩), .int .i64 1048576]) 0 rfl S261 (fun _ Sx262 => ylr 0 Sx262 Tryd.underlying59 inf59) ?_
          refine ak (v := .string ⟨#[100, 111, 117, 98, 108, 101]⟩) 2 rfl S261 (fun _ _ => ya) ?_
          refine aq1 1 ?_
          refine wN_new (i := 1) rfl rfl (V := fun b => .slice (some ⟨b, 0, none⟩) 1 1) (row := #[.pointer (some ⟨g, 3, none⟩), .int .i64 1048576]) (t := 59) S261 (wn rfl) rfl rfl (d_buildSlice (vs := [(0, .agg #[.pointer (some ⟨g, 3, none⟩), .int .i64 1048576])]) rfl ⟨rfl, rfl, trivial⟩ (by kernel_rfl)) ?_; intro b264 w265 S266; clear S261
          refine ⟨(St.del 0 S266), ?_⟩
          refine ak (v := .slice (some ⟨b264, 0, none⟩) 1 1) 3 rfl (St.del 0 S266) (fun _ _ => ya) ?_
          refine ak (v := .bool true) 4 rfl (St.del 0 S266) (fun _ _ => ya) ?_
          refine wA_done (by kernel_rfl) ?_
          refine pk [2, 3, 4] ?_
          refine x_tech (wQ_post (rs := [.tmp 2, .tmp 3, .tmp 4]) (vs := [.string ⟨#[100, 111, 117, 98, 108, 101]⟩, .slice (some ⟨b264, 0, none⟩) 1 1, .bool true]) rfl ⟨rfl, rfl, rfl, trivial⟩ ?_)
          rw [show wordOf x.kd x.ek = ⟨#[100, 111, 117, 98, 108, 101]⟩ from by simp [wordOf, h184, h195, h206, h216, h226, h240, h250, h260]]
          have S269 : St _ _ _ [_] := S266.dels [4, 3, 2, 1]; clear S266
          rw [show formL x.kd x.ek = some [(3, 1048576)] from by simp [formL, h184, h195, h206, h216, h226, h240, h250, h260]]
          exact ⟨_, rfl, St.blkRdo (n := 1) (xs := ([(3, 1048576)] : List (Nat × Int)).flatMap (slotCells g)) 0 S269 rfl rfl rfl⟩
         ·refine vv (yeqlF h260) ?_
          refine va ?_
          refine qk [0, 2, 3, 4, 6, 5, 7, 24, 59] ?_
          refine x_tnsr ?_
          by_cases h270 : x.kd = 7
          ·refine vv (yeqlT h270) ?_
           refine va ?_
           refine qk [0, 2, 3, 4, 6, 5, 24, 63] ?_
           refine x_tysr (va ?_)
           iterate 2 refine va ?_
           refine qk [2, 3, 4] ?_
           refine x_tech (wQ_post (rs := [.tmp 2, .tmp 3, .tmp 4]) (vs := [.string ⟨#[97, 108, 108]⟩, .slice none 0 0, .bool true]) rfl ⟨rfl, rfl, rfl, trivial⟩ ?_)
           rw [show wordOf x.kd x.ek = ⟨#[97, 108, 108]⟩ from by simp [wordOf, h184, h195, h206, h216, h226, h240, h250, h260, h270]]
           have S271 : St _ _ _ [] := S183.dels [3, 2, 1, 0]; clear S183
           rw [show formL x.kd x.ek = some [] from by simp [formL, h184, h195, h206, h216, h226, h240, h250, h260, h270]]
           exact ⟨none, rfl, rdo_nil S271⟩
          ·refine vv (yeqlF h270) ?_
           refine va ?_
           refine qk [0, 2, 3, 4, 6, 5, 24, 63] ?_
           refine x_tnsr ?_
           by_cases h272 : x.kd = 2
           ·refine vv (yeqlT h272) ?_
            refine va ?_
            refine qk [0, 2, 3, 4, 6, 5, 65] ?_
            refine x_tysr (vm ?_)
            refine vv (y_nil rfl rfl trivial) ?_
            refine vv (yfa 5 fa41_5) ?_
            refine va ?_
            refine qk [2, 3, 4, 6, 5, 8] ?_
            refine x_tsr (vm ?_)
            refine vv (y_nil rfl rfl trivial) ?_
            refine vv (yfa 5 fa39_0) ?_
            refine vv (v := .int .i64 x.ek) (y_load rfl rfl (r_load Tryd.underlying3 rfl (Rd.cl (j := 5) (St.rd 3 S183 rfl) rfl))) ?_
            refine qk [2, 3, 4, 6, 5, 8, 73] ?_
            refine x_tbsr ?_
            by_cases h273 : x.ek = 1
            ·refine vv (yeqlT h273) ?_
             refine va ?_
             refine qk [2, 3, 4, 6, 5, 8, 73, 74] ?_
             refine wQ_then (wC_cond_t rfl (wC_seq ?_))
             have S274 := S183.drew; clear S183
             refine wC_any_ (C := fun w' => St w.heap.size w w' [.blk b179 #[.pointer (some ⟨g, 3, none⟩), .int .i64 1048576] 59, .blk b172 #[.pointer (some ⟨g, 1, none⟩), .int .i64 4] 59, .blk b169 #[.pointer (some ⟨g, 2, none⟩), .int .i64 3] 59, .rd 11 (some ⟨g, 0, none⟩) 1 x.cells]) (n := 18) (listed := #[false, false, false, false, false, false, false, false, false, false, false, false, false, false, false, false, false, false]) mixed rfl rfl ?_
             refine ak (v := .agg #[.pointer (some ⟨g, 1, none⟩), .int .i64 4]) 0 rfl S274 (fun _ Sx275 => ylr 1 Sx275 Tryd.underlying59 inf59) ?_
             refine ak (v := .agg #[.pointer (some ⟨g, 2, none⟩), .int .i64 3]) 1 rfl S274 (fun _ Sx276 => ylr 2 Sx276 Tryd.underlying59 inf59) ?_
             refine ak (v := .pointer (some ⟨g, 5, none⟩)) 2 rfl S274 (fun _ _ => ym) ?_
             refine ak (v := .pointer (some ⟨g, 5, none⟩)) 3 rfl S274 (fun _ _ => y_nil rfl rfl trivial) ?_
             refine ak (v := .pointer (some ⟨g, 6, none⟩)) 4 rfl S274 (fun _ _ => yfa _ fa39_1) ?_
             refine ak (v := .agg #[.pointer (some ⟨g, 6, none⟩), .int .i64 3]) 5 rfl S274 (fun _ _ => (y_build (vs := [(0, .pointer (some ⟨g, 6, none⟩)), (1, .int .i64 3)]) rfl ⟨rfl, rfl, rfl, rfl, trivial⟩ (by kernel_rfl))) ?_
             refine ak (v := .pointer (some ⟨g, 5, none⟩)) 6 rfl S274 (fun _ _ => ym) ?_
             refine ak (v := .pointer (some ⟨g, 5, none⟩)) 7 rfl S274 (fun _ _ => y_nil rfl rfl trivial) ?_
             refine ak (v := .pointer (some ⟨g, 7, none⟩)) 8 rfl S274 (fun _ _ => yfa _ fa39_2) ?_
             refine ak (v := .agg #[.pointer (some ⟨g, 7, none⟩), .int .i64 1073741824]) 9 rfl S274 (fun _ _ => (y_build (vs := [(0, .pointer (some ⟨g, 7, none⟩)), (1, .int .i64 1073741824)]) rfl ⟨rfl, rfl, rfl, rfl, trivial⟩ (by kernel_rfl))) ?_
             refine ak (v := .pointer (some ⟨g, 5, none⟩)) 10 rfl S274 (fun _ _ => ym) ?_
             refine ak (v := .pointer (some ⟨g, 5, none⟩)) 11 rfl S274 (fun _ _ => y_nil rfl rfl trivial) ?_
             refine ak (v := .pointer (some ⟨g, 8, none⟩)) 12 rfl S274 (fun _ _ => yfa _ fa39_3) ?_
             refine ak (v := .agg #[.pointer (some ⟨g, 8, none⟩), .int .i64 1000000]) 13 rfl S274 (fun _ _ => (y_build (vs := [(0, .pointer (some ⟨g, 8, none⟩)), (1, .int .i64 1000000)]) rfl ⟨rfl, rfl, rfl, rfl, trivial⟩ (by kernel_rfl))) ?_
             refine ak (v := .string ⟨#[112, 117, 98, 108, 105, 115, 104]⟩) 15 rfl S274 (fun _ _ => ya) ?_
             refine aq1 14 ?_
             refine wN_new (i := 14) rfl rfl (V := fun b => .slice (some ⟨b, 0, none⟩) 5 5) (row := #[.pointer (some ⟨g, 1, none⟩), .int .i64 4, .pointer (some ⟨g, 2, none⟩), .int .i64 3, .pointer (some ⟨g, 6, none⟩), .int .i64 3, .pointer (some ⟨g, 7, none⟩), .int .i64 1073741824, .pointer (some ⟨g, 8, none⟩), .int .i64 1000000]) (t := 59) S274 (wn rfl) rfl rfl (d_buildSlice (vs := [(0, .agg #[.pointer (some ⟨g, 1, none⟩), .int .i64 4]), (1, .agg #[.pointer (some ⟨g, 2, none⟩), .int .i64 3]), (2, .agg #[.pointer (some ⟨g, 6, none⟩), .int .i64 3]), (3, .agg #[.pointer (some ⟨g, 7, none⟩), .int .i64 1073741824]), (4, .agg #[.pointer (some ⟨g, 8, none⟩), .int .i64 1000000])]) rfl ⟨rfl, rfl, rfl, rfl, rfl, rfl, rfl, rfl, rfl, rfl, trivial⟩ (by kernel_rfl)) ?_; intro b290 w291 S292; clear S274
             refine ⟨(St.del 0 S292), ?_⟩
             refine ak (v := .slice (some ⟨b290, 0, none⟩) 5 5) 16 rfl (St.del 0 S292) (fun _ _ => ya) ?_
             refine ak (v := .bool true) 17 rfl (St.del 0 S292) (fun _ _ => ya) ?_
             refine wA_done (by kernel_rfl) ?_
             refine pk [2, 3, 4] ?_
             refine wQ_then (wC_ret (wQ_blk_ret (wQ_blk_ret (wQ_then_ret (wQ_post (rs := [.tmp 2, .tmp 3, .tmp 4]) (vs := [.string ⟨#[112, 117, 98, 108, 105, 115, 104]⟩, .slice (some ⟨b290, 0, none⟩) 5 5, .bool true]) rfl ⟨rfl, rfl, rfl, trivial⟩ ?_)))))
             rw [show wordOf x.kd x.ek = ⟨#[112, 117, 98, 108, 105, 115, 104]⟩ from by simp [wordOf, h184, h195, h206, h216, h226, h240, h250, h260, h270, h272, h273]]
             have S295 : St _ _ _ [_] := S292.dels [4, 3, 2, 1]; clear S292
             rw [show formL x.kd x.ek = some [(1, 4), (2, 3), (6, 3), (7, 1073741824), (8, 1000000)] from by simp [formL, h184, h195, h206, h216, h226, h240, h250, h260, h270, h272, h273]]
             exact ⟨_, rfl, St.blkRdo (n := 5) (xs := ([(1, 4), (2, 3), (6, 3), (7, 1073741824), (8, 1000000)] : List (Nat × Int)).flatMap (slotCells g)) 0 S295 rfl rfl rfl⟩
            ·refine vv (yeqlF h273) ?_
             refine va ?_
             refine qk [2, 3, 4, 6, 5, 8, 73, 74] ?_
             refine x_tnsr ?_
             by_cases h296 : x.ek = 2
             ·refine vv (yeqlT h296) ?_
              refine va ?_
              refine qk [2, 3, 4, 6, 5, 8, 73, 91] ?_
              refine wQ_then (wC_cond_t rfl (wC_seq ?_))
              have S297 := S183.drew; clear S183
              refine wC_any_ (C := fun w' => St w.heap.size w w' [.blk b179 #[.pointer (some ⟨g, 3, none⟩), .int .i64 1048576] 59, .blk b172 #[.pointer (some ⟨g, 1, none⟩), .int .i64 4] 59, .blk b169 #[.pointer (some ⟨g, 2, none⟩), .int .i64 3] 59, .rd 11 (some ⟨g, 0, none⟩) 1 x.cells]) (n := 6) (listed := #[false, false, false, false, false, false]) mixed rfl rfl ?_
              refine ak (v := .agg #[.pointer (some ⟨g, 1, none⟩), .int .i64 4]) 0 rfl S297 (fun _ Sx298 => ylr 1 Sx298 Tryd.underlying59 inf59) ?_
              refine ak (v := .agg #[.pointer (some ⟨g, 2, none⟩), .int .i64 3]) 1 rfl S297 (fun _ Sx299 => ylr 2 Sx299 Tryd.underlying59 inf59) ?_
              refine ak (v := .string ⟨#[114, 101, 99, 101, 105, 118, 101]⟩) 3 rfl S297 (fun _ _ => ya) ?_
              refine aq1 2 ?_
              refine wN_new (i := 2) rfl rfl (V := fun b => .slice (some ⟨b, 0, none⟩) 2 2) (row := #[.pointer (some ⟨g, 1, none⟩), .int .i64 4, .pointer (some ⟨g, 2, none⟩), .int .i64 3]) (t := 59) S297 (wn rfl) rfl rfl (d_buildSlice (vs := [(0, .agg #[.pointer (some ⟨g, 1, none⟩), .int .i64 4]), (1, .agg #[.pointer (some ⟨g, 2, none⟩), .int .i64 3])]) rfl ⟨rfl, rfl, rfl, rfl, trivial⟩ (by kernel_rfl)) ?_; intro b301 w302 S303; clear S297
              refine ⟨(St.del 0 S303), ?_⟩
              refine ak (v := .slice (some ⟨b301, 0, none⟩) 2 2) 4 rfl (St.del 0 S303) (fun _ _ => ya) ?_
              refine ak (v := .bool true) 5 rfl (St.del 0 S303) (fun _ _ => ya) ?_
              refine wA_done (by kernel_rfl) ?_
              refine pk [2, 3, 4] ?_
              refine wQ_then (wC_ret (wQ_blk_ret (wQ_blk_ret (wQ_then_ret (wQ_post (rs := [.tmp 2, .tmp 3, .tmp 4]) (vs := [.string ⟨#[114, 101, 99, 101, 105, 118, 101]⟩, .slice (some ⟨b301, 0, none⟩) 2 2, .bool true]) rfl ⟨rfl, rfl, rfl, trivial⟩ ?_)))))
              rw [show wordOf x.kd x.ek = ⟨#[114, 101, 99, 101, 105, 118, 101]⟩ from by simp [wordOf, h184, h195, h206, h216, h226, h240, h250, h260, h270, h272, h273, h296]]
              have S306 : St _ _ _ [_] := S303.dels [4, 3, 2, 1]; clear S303
              rw [show formL x.kd x.ek = some [(1, 4), (2, 3)] from by simp [formL, h184, h195, h206, h216, h226, h240, h250, h260, h270, h272, h273, h296]]
              exact ⟨_, rfl, St.blkRdo (n := 2) (xs := ([(1, 4), (2, 3)] : List (Nat × Int)).flatMap (slotCells g)) 0 S306 rfl rfl rfl⟩
             ·refine vv (yeqlF h296) ?_
              refine va ?_
              refine qk [2, 3, 4, 6, 5, 8, 73, 91] ?_
              refine x_tnsr ?_
              by_cases h307 : x.ek = 3
              ·refine vv (yeqlT h307) ?_
               refine va ?_
               refine qk [2, 3, 4, 6, 5, 8, 96] ?_
               refine wQ_then (wC_cond_t rfl (wC_seq ?_))
               have S308 := S183.drew; clear S183
               refine wC_any_ (C := fun w' => St w.heap.size w w' [.blk b179 #[.pointer (some ⟨g, 3, none⟩), .int .i64 1048576] 59, .blk b172 #[.pointer (some ⟨g, 1, none⟩), .int .i64 4] 59, .blk b169 #[.pointer (some ⟨g, 2, none⟩), .int .i64 3] 59, .rd 11 (some ⟨g, 0, none⟩) 1 x.cells]) (n := 16) (listed := #[false, false, false, false, false, false, false, false, false, false, false, false, false, false, false, false]) mixed rfl rfl ?_
               refine ak (v := .agg #[.pointer (some ⟨g, 1, none⟩), .int .i64 4]) 0 rfl S308 (fun _ Sx309 => ylr 1 Sx309 Tryd.underlying59 inf59) ?_
               refine ak (v := .agg #[.pointer (some ⟨g, 2, none⟩), .int .i64 3]) 1 rfl S308 (fun _ Sx310 => ylr 2 Sx310 Tryd.underlying59 inf59) ?_
               refine ak (v := .pointer (some ⟨g, 5, none⟩)) 2 rfl S308 (fun _ _ => ym) ?_
               refine ak (v := .pointer (some ⟨g, 5, none⟩)) 3 rfl S308 (fun _ _ => y_nil rfl rfl trivial) ?_
               refine ak (v := .pointer (some ⟨g, 9, none⟩)) 4 rfl S308 (fun _ _ => yfa _ fa39_4) ?_
               refine ak (v := .pointer (some ⟨g, 9, none⟩)) 5 rfl S308 (fun _ _ => yfa _ fa37_0) ?_
               refine ak (v := .agg #[.pointer (some ⟨g, 9, none⟩), .int .i64 1048576]) 6 rfl S308 (fun _ _ => (y_build (vs := [(0, .pointer (some ⟨g, 9, none⟩)), (1, .int .i64 1048576)]) rfl ⟨rfl, rfl, rfl, rfl, trivial⟩ (by kernel_rfl))) ?_
               refine ak (v := .pointer (some ⟨g, 5, none⟩)) 7 rfl S308 (fun _ _ => ym) ?_
               refine ak (v := .pointer (some ⟨g, 5, none⟩)) 8 rfl S308 (fun _ _ => y_nil rfl rfl trivial) ?_
               refine ak (v := .pointer (some ⟨g, 9, none⟩)) 9 rfl S308 (fun _ _ => yfa _ fa39_4) ?_
               refine ak (v := .pointer (some ⟨g, 10, none⟩)) 10 rfl S308 (fun _ _ => yfa _ fa37_1) ?_
               refine ak (v := .agg #[.pointer (some ⟨g, 10, none⟩), .int .i64 1073741824]) 11 rfl S308 (fun _ _ => (y_build (vs := [(0, .pointer (some ⟨g, 10, none⟩)), (1, .int .i64 1073741824)]) rfl ⟨rfl, rfl, rfl, rfl, trivial⟩ (by kernel_rfl))) ?_
               refine ak (v := .string ⟨#[97, 99, 107]⟩) 13 rfl S308 (fun _ _ => ya) ?_
               refine aq1 12 ?_
               refine wN_new (i := 12) rfl rfl (V := fun b => .slice (some ⟨b, 0, none⟩) 4 4) (row := #[.pointer (some ⟨g, 1, none⟩), .int .i64 4, .pointer (some ⟨g, 2, none⟩), .int .i64 3, .pointer (some ⟨g, 9, none⟩), .int .i64 1048576, .pointer (some ⟨g, 10, none⟩), .int .i64 1073741824]) (t := 59) S308 (wn rfl) rfl rfl (d_buildSlice (vs := [(0, .agg #[.pointer (some ⟨g, 1, none⟩), .int .i64 4]), (1, .agg #[.pointer (some ⟨g, 2, none⟩), .int .i64 3]), (2, .agg #[.pointer (some ⟨g, 9, none⟩), .int .i64 1048576]), (3, .agg #[.pointer (some ⟨g, 10, none⟩), .int .i64 1073741824])]) rfl ⟨rfl, rfl, rfl, rfl, rfl, rfl, rfl, rfl, trivial⟩ (by kernel_rfl)) ?_; intro b322 w323 S324; clear S308
               refine ⟨(St.del 0 S324), ?_⟩
               refine ak (v := .slice (some ⟨b322, 0, none⟩) 4 4) 14 rfl (St.del 0 S324) (fun _ _ => ya) ?_
               refine ak (v := .bool true) 15 rfl (St.del 0 S324) (fun _ _ => ya) ?_
               refine wA_done (by kernel_rfl) ?_
               refine pk [2, 3, 4] ?_
               refine wQ_then (wC_ret (wQ_blk_ret (wQ_blk_ret (wQ_then_ret (wQ_post (rs := [.tmp 2, .tmp 3, .tmp 4]) (vs := [.string ⟨#[97, 99, 107]⟩, .slice (some ⟨b322, 0, none⟩) 4 4, .bool true]) rfl ⟨rfl, rfl, rfl, trivial⟩ ?_)))))
               rw [show wordOf x.kd x.ek = ⟨#[97, 99, 107]⟩ from by simp [wordOf, h184, h195, h206, h216, h226, h240, h250, h260, h270, h272, h273, h296, h307]]
               have S327 : St _ _ _ [_] := S324.dels [4, 3, 2, 1]; clear S324
               rw [show formL x.kd x.ek = some [(1, 4), (2, 3), (9, 1048576), (10, 1073741824)] from by simp [formL, h184, h195, h206, h216, h226, h240, h250, h260, h270, h272, h273, h296, h307]]
               exact ⟨_, rfl, St.blkRdo (n := 4) (xs := ([(1, 4), (2, 3), (9, 1048576), (10, 1073741824)] : List (Nat × Int)).flatMap (slotCells g)) 0 S327 rfl rfl rfl⟩
              ·refine vv (yeqlF h307) ?_
               refine va ?_
               refine qk [2, 3, 4, 6, 5, 8, 96] ?_
               refine wQ_then (wC_cond_f rfl (wC_skip (wQ_blk_n (wQ_blk_n (wQ_then (wC_seq (wC_region (va ?_))))))))
               iterate 2 refine va ?_
               refine qk [2, 3, 4] ?_
               refine x_te (wQ_post (rs := [.tmp 2, .tmp 3, .tmp 4]) (vs := [.string ⟨#[]⟩, .slice none 0 0, .bool false]) rfl ⟨rfl, rfl, rfl, trivial⟩ ?_)
               rw [show wordOf x.kd x.ek = ⟨#[]⟩ from by simp [wordOf, h184, h195, h206, h216, h226, h240, h250, h260, h270, h272, h273, h296, h307]]
               rw [show formL x.kd x.ek = none from by simp [formL, h184, h195, h206, h216, h226, h240, h250, h260, h270, h272, h273, h296, h307]]
               exact ⟨rfl, S183.low⟩
           ·refine vv (yeqlF h272) ?_
            refine va ?_
            refine qk [0, 2, 3, 4, 6, 5, 65] ?_
            refine wQ_then (wC_cond_f rfl (wC_skip (wQ_blk_n (wQ_then (wC_seq (wC_region (va ?_)))))))
            iterate 2 refine va ?_
            refine qk [2, 3, 4] ?_
            refine x_te (wQ_post (rs := [.tmp 2, .tmp 3, .tmp 4]) (vs := [.string ⟨#[]⟩, .slice none 0 0, .bool false]) rfl ⟨rfl, rfl, rfl, trivial⟩ ?_)
            rw [show wordOf x.kd x.ek = ⟨#[]⟩ from by simp [wordOf, h184, h195, h206, h216, h226, h240, h250, h260, h270, h272]]
            rw [show formL x.kd x.ek = none from by simp [formL, h184, h195, h206, h216, h226, h240, h250, h260, h270, h272]]
            exact ⟨rfl, S183.low⟩
end Go.Proofs.YtkjlafpafmihaaaDoor

