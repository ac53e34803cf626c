/- Parts of proofs: lemmas on memory, on single functions and on the plain models; no condition of their own. -/
import Derived.Test.YtkjlafpafmihaaaRows
import Derived.WalkKit
import Derived.ProofKit
import Derived.OpenShut
import Derived.SizedLaws
import Derived.WalkSpells
import Derived.WalkLawsBesides
import Derived.Handy
import Derived.Deep.QuietTactic
import Derived.BigQuiet
import Derived.Lib.Hide
import Derived.Maps.AppendAt
import Derived.Deep.AppendLies
import Derived.RegionTactic
import Derived.OwnWalk
import Derived.Laws.Tables
import Derived.Deep.MidRow
import Derived.StillTailTactics
import Derived.OrdersHeld
import Derived.Deep.RegionHeld3
import Derived.Laws.IdiomCopy
import Derived.ChangeKeysEq
import Derived.Laws.BitsAllLaws
import Derived.Test.YtkjlafpafmihaaaG106a6d0673e2
import Derived.Test.YtkjlafpafmihaaaG191435b3f518
import Derived.Test.YtkjlafpafmihaaaG37e7b647d51a
import Derived.Test.YtkjlafpafmihaaaG5048191d089e
import Derived.Test.YtkjlafpafmihaaaG90ed342fa9df
import Derived.Test.YtkjlafpafmihaaaGa54395e311fb
import Derived.Test.YtkjlafpafmihaaaGaa2045d604a6
import Derived.Test.YtkjlafpafmihaaaGe29d7414e059
import Derived.Test.YtkjlafpafmihaaaGe8bce0846ba6
set_option linter.unusedVariables false
set_option linter.unusedSimpArgs false

namespace Go.Proofs.Ytkjlafpafmihaaa
open Go.ChangeShapes Go.WideShapes Go.ChangeAt Go.RowKit

section
variable {P : Program} {w : World} {t e : TypeId} {A : Option Addr} {n c s B : Nat} {xs : List Value} {kd ke kf : IntKind}
theorem r_eqg {op : BinOp} {xo yo : Operand} {a b : Array Value} {v : Value} (hg : P.eqGuardType P.depth t = false) (h : (binOp op t (.agg a) (.agg b)).run P w = .ok v w) : (do eqGuard op t xo yo (.agg a) (.agg b); binOp op t (.agg a) (.agg b) : Sem Value).run P w = .ok v w := by
  have h1 : (eqGuard op t xo yo (.agg a) (.agg b)).run P w = .ok () w := by
    have hp : ∀ w, (program : Sem Program).run P w = .ok P w := fun _ => rfl
    unfold eqGuard
    cases op <;> first | rfl | simp [hp, Sem.run_bind, Result.andThen, hg]
  rw [Sem.run_bind, h1]
  exact h
end
end Go.Proofs.Ytkjlafpafmihaaa

namespace Go.Proofs.Ytkjlafpafmihaaa
open Go.ChangeShapes Go.WideShapes Go.RowKit

structure Ac where
  kd : Int
  nd : Int
  qu : Int
  at_ : Int
  kp : Int
  ek : Int
  ep : Int
  ei : Int
  eb : Int
  eh : Int
  en : Int
def Ac.ints (x : Ac) : List Int := [x.kd, x.nd, x.qu, x.at_, x.kp, x.ek, x.ep, x.ei, x.eb, x.eh, x.en]
def intVs (l : List Int) : List Value := l.map (Value.int .i64)
def Ac.cells (x : Ac) : List Value := [.int .i64 x.kd, .int .i64 x.nd, .int .i64 x.qu, .int .i64 x.at_, .int .i64 x.kp, .int .i64 x.ek, .int .i64 x.ep, .int .i64 x.ei, .int .i64 x.eb, .int .i64 x.eh, .int .i64 x.en]
theorem Ac.cells_eq (x : Ac) : x.cells = intVs x.ints := rfl
def Ac.get (x : Ac) (i : Nat) : Int := x.ints.getD i 0
theorem Ac.cell (x : Ac) {i : Nat} (h : i < 11) : x.cells[i]? = some (.int .i64 (x.get i)) := by
  rw [Ac.cells_eq, intVs, List.getElem?_map, List.getElem?_eq_getElem (by exact h)]
  have e : x.get i = x.ints[i]'h := by simp only [Ac.get, List.getD_eq_getElem?_getD, List.getElem?_eq_getElem (show i < x.ints.length from h), Option.getD_some]; rfl
  rw [e]
  rfl
/-- An act's numbers: where each lies, and its bound. -/
def formL (kd ek : Int) : Option (List (Nat × Int)) :=
  if kd = 1 then some [(2, 3), (1, 4)] else if kd = 10 then some [(2, 3), (1, 4)] else if kd = 3 then some [(1, 4)] else if kd = 9 then some [(1, 4)]
  else if kd = 8 then some [(1, 4), (4, 100000)] else if kd = 4 then some [(3, 1048576)] else if kd = 5 then some [(3, 1048576)] else if kd = 6 then some [(3, 1048576)]
  else if kd = 7 then some [] else if kd = 2 then (if ek = 1 then some [(1, 4), (2, 3), (6, 3), (7, 1073741824), (8, 1000000)] else if ek = 2 then some [(1, 4), (2, 3)]
  else if ek = 3 then some [(1, 4), (2, 3), (9, 1048576), (10, 1073741824)] else none) else none
/-- The kinds of acts, one by one. -/
theorem kinds (kd ek : Int) : kd = 1 ∨ kd = 10 ∨ kd = 3 ∨ kd = 9 ∨ kd = 8 ∨ kd = 4 ∨ kd = 5 ∨ kd = 6 ∨ kd = 7 ∨ (kd = 2 ∧ ek = 1) ∨ (kd = 2 ∧ ek = 2) ∨ (kd = 2 ∧ ek = 3) ∨ formL kd ek = none := by
  by_cases h1 : kd = 1
  · simp [h1]
  by_cases h10 : kd = 10
  · simp [h10]
  by_cases h3 : kd = 3
  · simp [h3]
  by_cases h9 : kd = 9
  · simp [h9]
  by_cases h8 : kd = 8
  · simp [h8]
  by_cases h4 : kd = 4
  · simp [h4]
  by_cases h5 : kd = 5
  · simp [h5]
  by_cases h6 : kd = 6
  · simp [h6]
  by_cases h7 : kd = 7
  · simp [h7]
  by_cases h2 : kd = 2
  · by_cases e1 : ek = 1
    · simp [h2, e1]
    by_cases e2 : ek = 2
    · simp [h2, e2]
    by_cases e3 : ek = 3
    · simp [h2, e3]
    simp [formL, h2, e1, e2, e3]
  simp [formL, h2, h1, h10, h3, h9, h8, h4, h5, h6, h7]
theorem form_lt {kd ek : Int} {l : List (Nat × Int)} (h : formL kd ek = some l) : ∀ p ∈ l, 1 ≤ p.1 ∧ p.1 < 11 ∧ p.1 ≠ 5 := by
  rcases kinds kd ek with rfl | rfl | rfl | rfl | rfl | rfl | rfl | rfl | rfl | ⟨rfl, rfl⟩ | ⟨rfl, rfl⟩ | ⟨rfl, rfl⟩ | hn
  all_goals first | (rw [hn] at h; cases h; done) | (simp [formL] at h; subst h; decide)
theorem form_len {kd ek : Int} {l : List (Nat × Int)} (h : formL kd ek = some l) : l.length ≤ 5 := by
  rcases kinds kd ek with rfl | rfl | rfl | rfl | rfl | rfl | rfl | rfl | rfl | ⟨rfl, rfl⟩ | ⟨rfl, rfl⟩ | ⟨rfl, rfl⟩ | hn
  all_goals first | (rw [hn] at h; cases h; done) | (simp [formL] at h; subst h; decide)
def inB (x : Ac) (p : Nat × Int) : Bool := decide (0 ≤ x.get p.1 ∧ x.get p.1 ≤ p.2)
def zer (c : List Int) (l : List (Nat × Int)) : List Int := l.foldl (fun c p => c.set p.1 0) c
def fin (x : Ac) (l : List (Nat × Int)) : List Int := (if x.kd = 2 then (zer x.ints l).set 5 0 else zer x.ints l).set 0 0
def zeros : List Int := [0, 0, 0, 0, 0, 0, 0, 0, 0, 0, 0]
def actFault (x : Ac) : Int := match formL x.kd x.ek with
  | none => 3
  | some l => if l.all (inB x) = true then (if fin x l = zeros then 0 else 3) else 2
/-- The act that an act's kind and numbers alone make. -/
def keep (x : Ac) : Ac :=
  if x.kd = 1 then ⟨x.kd, x.nd, x.qu, 0, 0, 0, 0, 0, 0, 0, 0⟩ else if x.kd = 10 then ⟨x.kd, x.nd, x.qu, 0, 0, 0, 0, 0, 0, 0, 0⟩ else if x.kd = 3 then ⟨x.kd, x.nd, 0, 0, 0, 0, 0, 0, 0, 0, 0⟩ else if x.kd = 9 then ⟨x.kd, x.nd, 0, 0, 0, 0, 0, 0, 0, 0, 0⟩
  else if x.kd = 8 then ⟨x.kd, x.nd, 0, 0, x.kp, 0, 0, 0, 0, 0, 0⟩ else if x.kd = 4 then ⟨x.kd, 0, 0, x.at_, 0, 0, 0, 0, 0, 0, 0⟩ else if x.kd = 5 then ⟨x.kd, 0, 0, x.at_, 0, 0, 0, 0, 0, 0, 0⟩ else if x.kd = 6 then ⟨x.kd, 0, 0, x.at_, 0, 0, 0, 0, 0, 0, 0⟩
  else if x.kd = 7 then ⟨x.kd, 0, 0, 0, 0, 0, 0, 0, 0, 0, 0⟩ else if x.ek = 1 then ⟨x.kd, x.nd, x.qu, 0, 0, x.ek, x.ep, x.ei, x.eb, 0, 0⟩ else if x.ek = 2 then ⟨x.kd, x.nd, x.qu, 0, 0, x.ek, 0, 0, 0, 0, 0⟩ else ⟨x.kd, x.nd, x.qu, 0, 0, x.ek, 0, 0, 0, x.eh, x.en⟩
theorem keep_fin {x : Ac} {l : List (Nat × Int)} (h : formL x.kd x.ek = some l) : x.ints = (keep x).ints ↔ fin x l = zeros := by
  obtain ⟨kd, nd, qu, at_, kp, ek, ep, ei, eb, eh, en⟩ := x
  rcases kinds kd ek with rfl | rfl | rfl | rfl | rfl | rfl | rfl | rfl | rfl | ⟨rfl, rfl⟩ | ⟨rfl, rfl⟩ | ⟨rfl, rfl⟩ | hn
  all_goals first | (dsimp only at h; rw [hn] at h; cases h) | (simp [formL] at h; subst h; simp [Ac.ints, keep, fin, zer, zeros]; try omega)
section
variable {x : Ac} {l : List (Nat × Int)}
theorem af_none (h : formL x.kd x.ek = none) : actFault x = 3 := by unfold actFault; rw [h]
theorem af_range (h : formL x.kd x.ek = some l) (ha : ¬ l.all (inB x) = true) : actFault x = 2 := by unfold actFault; rw [h]; exact if_neg ha
theorem af_rest (h : formL x.kd x.ek = some l) (ha : l.all (inB x) = true) (hf : ¬ fin x l = zeros) : actFault x = 3 := by unfold actFault; rw [h]; simp only [if_pos ha, if_neg hf]
theorem af_ok (h : formL x.kd x.ek = some l) (ha : l.all (inB x) = true) (hf : fin x l = zeros) : actFault x = 0 := by unfold actFault; rw [h]; simp only [if_pos ha, if_pos hf]
theorem all_take {k : Nat} {p : Nat × Int} (h : l[k]? = some p) (ha : (l.take k).all (inB x) = true) (hp : 0 ≤ x.get p.1 ∧ x.get p.1 ≤ p.2) : (l.take (k + 1)).all (inB x) = true := by
  rw [List.take_add_one, h, List.all_append, ha]
  simp [inB, hp]
theorem all_bad {k : Nat} {p : Nat × Int} (h : l[k]? = some p) (hp : ¬ (0 ≤ x.get p.1 ∧ x.get p.1 ≤ p.2)) : ¬ l.all (inB x) = true := fun ha => by
  have := List.all_eq_true.1 ha p (List.mem_of_getElem? h)
  simp only [inB, decide_eq_true_eq] at this
  exact hp this
theorem zer_take {c : List Int} {k : Nat} {p : Nat × Int} (h : l[k]? = some p) : (zer c (l.take k)).set p.1 0 = zer c (l.take (k + 1)) := by
  unfold zer
  rw [List.take_add_one, h, List.foldl_append]
  rfl
theorem zer_len (c : List Int) : ∀ (l : List (Nat × Int)), (zer c l).length = c.length
  | [] => rfl
  | p :: l => by
    show (zer (c.set p.1 0) l).length = _
    rw [zer_len _ l, List.length_set]
theorem zer_zero : ∀ (l : List (Nat × Int)) (c : List Int), (∀ p ∈ l, 1 ≤ p.1) → (zer c l)[0]? = c[0]?
  | [], _, _ => rfl
  | p :: l, c, h => by
    show (zer (c.set p.1 0) l)[0]? = _
    rw [zer_zero l _ fun q hq => h q (List.mem_cons_of_mem _ hq), List.getElem?_set_ne (by have := h p (List.mem_cons_self ..); omega)]
end
/-! ### The act's row while its numbers are taken away -/
def acRow (c : List Int) : Array Value := (intVs c).toArray
theorem acRow_size {c : List Int} (h : c.length = 11) : (acRow c).size = 11 := by simp [acRow, intVs, h]
theorem acRow_get {c : List Int} {i : Nat} {v : Int} (h : c[i]? = some v) : (acRow c)[i]? = some (.int .i64 v) := by simp [acRow, intVs, h]
theorem acRow_set {c : List Int} {i : Nat} : (acRow c).setIfInBounds i (.int .i64 0) = acRow (c.set i 0) := by
  apply Array.toList_inj.1
  simp [acRow, intVs, Array.toList_setIfInBounds, List.map_set]
theorem flat_ac : flat Try.prog 30 39 = some (List.replicate 11 (.at_ (.int .i64))) := by kernel_rfl
theorem ac_eqOk : eqOk Try.prog 30 39 = true := by kernel_rfl
theorem ac_mkV (xs : List Value) : mkV Try.prog 39 xs = .agg xs.toArray := by
  unfold mkV
  rw [Try.underlying39]
theorem ac_neq {a b : List Int} (ha : a.length = 11) (hb : b.length = 11) (w : World) : (binOp .neq 39 (.agg (acRow a)) (.agg (acRow b))).run Try.prog w = .ok (.bool (!decide (a = b))) w := by
  have k1 := kd_ints a
  have k2 := kd_ints b
  rw [ha] at k1
  rw [hb] at k2
  have h := run_neq_cells (P := Try.prog) w flat_ac ac_eqOk ac_mkV k1 k2
  rw [cellsEq_ints (by rw [ha, hb])] at h
  exact h
end Go.Proofs.Ytkjlafpafmihaaa

namespace Go.Proofs.Ytkjlafpafmihaaa
open Go.ChangeShapes Go.WideShapes Go.RowKit

theorem inf3 : (Try.prog.info? 3).map (·.size) = some 1 := by kernel_rfl
theorem inf35 : (Try.prog.info? 35).map (·.size) = some 2 := by kernel_rfl
theorem fa35_0 (b o : Nat) (w : World) : (Instr.fieldAt 35 (.pointer (some ⟨b, o, none⟩)) 0).run Try.prog w = .ok (.pointer (some ⟨b, o, none⟩)) w := by kernel_rfl
theorem fa35_1 (b o : Nat) (w : World) : (Instr.fieldAt 35 (.pointer (some ⟨b, o, none⟩)) 1).run Try.prog w = .ok (.pointer (some ⟨b, o + 1, none⟩)) w := by kernel_rfl
theorem fa37_0 (b o : Nat) (w : World) : (Instr.fieldAt 37 (.pointer (some ⟨b, o, none⟩)) 0).run Try.prog w = .ok (.pointer (some ⟨b, o, none⟩)) w := by kernel_rfl
theorem fa37_1 (b o : Nat) (w : World) : (Instr.fieldAt 37 (.pointer (some ⟨b, o, none⟩)) 1).run Try.prog w = .ok (.pointer (some ⟨b, o + 1, none⟩)) w := by kernel_rfl
theorem fa37_2 (b o : Nat) (w : World) : (Instr.fieldAt 37 (.pointer (some ⟨b, o, none⟩)) 2).run Try.prog w = .ok (.pointer (some ⟨b, o + 2, none⟩)) w := by kernel_rfl
theorem fa37_3 (b o : Nat) (w : World) : (Instr.fieldAt 37 (.pointer (some ⟨b, o, none⟩)) 3).run Try.prog w = .ok (.pointer (some ⟨b, o + 3, none⟩)) w := by kernel_rfl
theorem fa37_4 (b o : Nat) (w : World) : (Instr.fieldAt 37 (.pointer (some ⟨b, o, none⟩)) 4).run Try.prog w = .ok (.pointer (some ⟨b, o + 4, none⟩)) w := by kernel_rfl
theorem inf39 : (Try.prog.info? 39).map (·.size) = some 11 := by kernel_rfl
theorem fa39_0 (b o : Nat) (w : World) : (Instr.fieldAt 39 (.pointer (some ⟨b, o, none⟩)) 0).run Try.prog w = .ok (.pointer (some ⟨b, o, none⟩)) w := by kernel_rfl
theorem fa39_1 (b o : Nat) (w : World) : (Instr.fieldAt 39 (.pointer (some ⟨b, o, none⟩)) 1).run Try.prog w = .ok (.pointer (some ⟨b, o + 1, none⟩)) w := by kernel_rfl
theorem fa39_2 (b o : Nat) (w : World) : (Instr.fieldAt 39 (.pointer (some ⟨b, o, none⟩)) 2).run Try.prog w = .ok (.pointer (some ⟨b, o + 2, none⟩)) w := by kernel_rfl
theorem fa39_3 (b o : Nat) (w : World) : (Instr.fieldAt 39 (.pointer (some ⟨b, o, none⟩)) 3).run Try.prog w = .ok (.pointer (some ⟨b, o + 3, none⟩)) w := by kernel_rfl
theorem fa39_4 (b o : Nat) (w : World) : (Instr.fieldAt 39 (.pointer (some ⟨b, o, none⟩)) 4).run Try.prog w = .ok (.pointer (some ⟨b, o + 4, none⟩)) w := by kernel_rfl
theorem fa39_5 (b o : Nat) (w : World) : (Instr.fieldAt 39 (.pointer (some ⟨b, o, none⟩)) 5).run Try.prog w = .ok (.pointer (some ⟨b, o + 5, none⟩)) w := by kernel_rfl
theorem inf150 : (Try.prog.info? 150).map (·.size) = some 2 := by kernel_rfl
theorem fa150_0 (b o : Nat) (w : World) : (Instr.fieldAt 150 (.pointer (some ⟨b, o, none⟩)) 0).run Try.prog w = .ok (.pointer (some ⟨b, o, none⟩)) w := by kernel_rfl
theorem fa150_1 (b o : Nat) (w : World) : (Instr.fieldAt 150 (.pointer (some ⟨b, o, none⟩)) 1).run Try.prog w = .ok (.pointer (some ⟨b, o + 1, none⟩)) w := by kernel_rfl
theorem en33 (args : Array Value) (w : World) : (callFunc 33 args).run Try.prog w = .ok (.enter 33 args) w := enters_of_ Try.func33 (by kernel_rfl) rfl args w
theorem en34 (args : Array Value) (w : World) : (callFunc 34 args).run Try.prog w = .ok (.enter 34 args) w := enters_of_ Try.func34 (by kernel_rfl) rfl args w
theorem en107 (args : Array Value) (w : World) : (callFunc 107 args).run Try.prog w = .ok (.enter 107 args) w := enters_of_ Try.func107 (by kernel_rfl) rfl args w
theorem en109 (args : Array Value) (w : World) : (callFunc 109 args).run Try.prog w = .ok (.enter 109 args) w := enters_of_ Try.func109 (by kernel_rfl) rfl args w
theorem en110 (args : Array Value) (w : World) : (callFunc 110 args).run Try.prog w = .ok (.enter 110 args) w := enters_of_ Try.func110 (by kernel_rfl) rfl args w
theorem en111 (args : Array Value) (w : World) : (callFunc 111 args).run Try.prog w = .ok (.enter 111 args) w := enters_of_ Try.func111 (by kernel_rfl) rfl args w
theorem en112 (args : Array Value) (w : World) : (callFunc 112 args).run Try.prog w = .ok (.enter 112 args) w := enters_of_ Try.func112 (by kernel_rfl) rfl args w
theorem mixed : Try.prog.follows .mixedOrders = true := by kernel_rfl
end Go.Proofs.Ytkjlafpafmihaaa

namespace Go.Proofs.Ytkjlafpafmihaaa
open Go.ChangeShapes Go.WideShapes Go.ChangeAt Go.RowKit
theorem rdo_nil {B : Nat} {w0 w : World} {fs : List Fact} {s : Nat} (S : St B w0 w fs) : St B w0 w (.rdo s none 0 [] :: fs) := S.cons ⟨Rd.none_, fun a h => by cases h⟩ fun k hk => by cases hk
end Go.Proofs.Ytkjlafpafmihaaa

namespace Go.Proofs.Ytkjlafpafmihaaa
open Go.ChangeShapes Go.WideShapes Go.RowKit
/-- Some of the slots, by their numbers. -/
inductive Pick (l : Slots) : List Nat → Slots → Prop
  | z : Pick l [] []
  | s {k : Nat} {ks : List Nat} {v : Value} {l' : Slots} : lk l k = some v → Pick l ks l' → Pick l (k :: ks) ((k, v) :: l')
theorem Pick.sub {l : Slots} {ks : List Nat} {l' : Slots} (h : Pick l ks l') : SubL l l' := by
  induction h with
  | z => exact trivial
  | s h _ ih => exact ⟨h, ih⟩
/-- A fact of a list in place of another. -/
inductive SetAt (f : Fact) : List Fact → Nat → List Fact → Prop
  | z {g : Fact} {fs : List Fact} : SetAt f (g :: fs) 0 (f :: fs)
  | s {g : Fact} {fs fs' : List Fact} {i : Nat} : SetAt f fs i fs' → SetAt f (g :: fs) (i + 1) (g :: fs')
theorem SetAt.eq {f : Fact} {fs fs' : List Fact} {i : Nat} (h : SetAt f fs i fs') : fs.set i f = fs' := by
  induction h with
  | z => rfl
  | s _ ih => rw [List.set_cons_succ, ih]
def delsF : List Nat → List Fact → List Fact
  | [], fs => fs
  | i :: is, fs => delsF is (fs.eraseIdx i)
theorem St.dels {B : Nat} {w0 w : World} : ∀ {fs : List Fact} (_ : St B w0 w fs) (is : List Nat), St B w0 w (delsF is fs)
  | _, S, [] => S
  | _, S, i :: is => (St.del i S).dels is
theorem elm {α : Type} {enc : α → List Value} {w : World} {B sz n : Nat} {A : Option Addr} {l : List α} (k : Nat) (h : Rd w B sz A n (l.flatMap enc)) (hk : k < n) (hs : ∀ x, (enc x).length = sz := by exact fun _ => rfl) (hz : Nat.blt 0 sz = true := by exact rfl) : ∃ x, l[k]? = some x := by
  have h1 := h.1
  rw [fm_len hs] at h1
  have h2 : l.length = n := Nat.eq_of_mul_eq_mul_right (Nat.le_of_ble_eq_true hz) h1
  exact ⟨_, List.getElem?_eq_getElem (by omega)⟩
section
variable {P : Program} {N : Nat} {l l' : Slots} {w w' w0 : World} {ops : Array Oper} {o : Oper} {rest : List Oper} {Q : Exit → Act → World → Prop} {d B : Nat} {v p : Value} {fs fs' : List Fact} {ex : Exit}
theorem qk (ks : List Nat) (h : wQ N Q .normal l' w) (hp : Pick l ks l' := by repeat' first | exact Pick.z | apply Pick.s rfl) : wL P N ops Q [] l w := wL_nil (wQ_sub hp.sub h)
theorem pk (ks : List Nat) (h : wQ N Q ex l' w) (hp : Pick l ks l' := by repeat' first | exact Pick.z | apply Pick.s rfl) : wQ N Q ex l w := wQ_sub hp.sub h
theorem cw {c : Code} (ks : List Nat) (h : wC P N c Q l' w) (hp : Pick l ks l' := by repeat' first | exact Pick.z | apply Pick.s rfl) : wC P N c Q l w := wC_sub hp.sub h
/-! ### What an operation yields -/
section
variable {x : Operand}
theorem ym (ho : o.op = .move x := by exact rfl) (hx : ev l x = some v := by exact rfl) : Yld P N l o w v := y_move ho hx
theorem ya (ho : o.op = .assign x := by exact rfl) (hx : ev l x = some v := by exact rfl) : Yld P N l o w v := y_assign ho hx
theorem yx {k : Nat} {vs : Array Value} (ho : o.op = .extract x k := by exact rfl) (hx : ev l x = some (.tuple vs) := by exact rfl) (hk : vs[k]? = some v := by exact rfl) : Yld P N l o w v := y_extract ho hx hk
theorem ypT {c y : Operand} (ho : o.op = .pick c x y := by exact rfl) (hc : ev l c = some (.bool true) := by exact rfl) (hx : ev l x = some v := by exact rfl) : Yld P N l o w v := y_pick_t ho hc hx
theorem ypF {c y : Operand} (ho : o.op = .pick c x y := by exact rfl) (hc : ev l c = some (.bool false) := by exact rfl) (hx : ev l y = some v := by exact rfl) : Yld P N l o w v := y_pick_f ho hc hx
theorem yno {t : TypeId} {b c : Bool} (ho : o.op = .unOp .not t x := by exact rfl) (hx : ev l x = some (.bool b) := by exact rfl) (hb : (!b) = c := by exact rfl) : Yld P N l o w (.bool c) := hb ▸ y_unop ho hx r_not
theorem ylr {b m : Nat} {row : Array Value} {tt t : TypeId} {ds : TypeDesc} (i : Nat) (S : St B w0 w fs) (hu : P.underlying t = some ds) (hz : (P.info? t).map (·.size) = some m) (ho : o.op = .load t x := by exact rfl) (hx : ev l x = some (.pointer (some ⟨b, 0, none⟩)) := by exact rfl)
    (hi : fs[i]? = some (.blk b row tt) := by exact rfl) (hd : ds.isRow = true := by exact rfl) (hm : row.size = m := by exact rfl) : Yld P N l o w (.agg row) := y_load ho hx (r_load_row i S hi hu hd hz hm)
theorem ylc {b k : Nat} {row : Array Value} {tt t : TypeId} {ds : TypeDesc} (i : Nat) (S : St B w0 w fs) (hu : P.underlying t = some ds) (ho : o.op = .load t x := by exact rfl) (hx : ev l x = some (.pointer (some ⟨b, k, none⟩)) := by exact rfl) (hd : ds.isRow = false := by exact rfl)
    (hi : fs[i]? = some (.blk b row tt) := by exact rfl) (hk : row[k]? = some v := by exact rfl) : Yld P N l o w v := y_load ho hx (r_load hu hd (St.cl i S hi hk))
theorem yfa {s : TypeId} {f b o0 : Nat} {g : Nat → Nat} (o' : Nat) (hf : ∀ (b o : Nat) (w : World), (Instr.fieldAt s (.pointer (some ⟨b, o, none⟩)) f).run P w = .ok (.pointer (some ⟨b, g o, none⟩)) w) (ho : o.op = .fieldAddr s x f := by exact rfl)
    (hx : ev l x = some (.pointer (some ⟨b, o0, none⟩)) := by exact rfl) (he : g o0 = o' := by exact rfl) : Yld P N l o w (.pointer (some ⟨b, o', none⟩)) := he ▸ y_fieldAddr ho hx (hf b o0 w)
theorem yz {t : TypeId} (ho : o.op = .build t ([] : List (Nat × Operand)).toArray := by exact rfl) (hr : (Instr.build t ([] : List (Nat × Value)).toArray).run P w = .ok v w := by kernel_rfl) : Yld P N l o w v := y_build (vs := []) ho trivial hr
end
section
variable {t tt : TypeId} {kd : IntKind} {xo yo : Operand} {x y : Int}
theorem ylssT (h : x < y) (ho : o.op = .binOp .lss t xo yo tt := by exact rfl) (hx : ev l xo = some (.int kd x) := by exact rfl) (hy : ev l yo = some (.int kd y) := by exact rfl) : Yld P N l o w (.bool true) := y_binop ho hx hy (r_lss_t h)
theorem ylssF (h : ¬ x < y) (ho : o.op = .binOp .lss t xo yo tt := by exact rfl) (hx : ev l xo = some (.int kd x) := by exact rfl) (hy : ev l yo = some (.int kd y) := by exact rfl) : Yld P N l o w (.bool false) := y_binop ho hx hy (r_lss_f h)
theorem ygtrT (h : y < x) (ho : o.op = .binOp .gtr t xo yo tt := by exact rfl) (hx : ev l xo = some (.int kd x) := by exact rfl) (hy : ev l yo = some (.int kd y) := by exact rfl) : Yld P N l o w (.bool true) := y_binop ho hx hy (r_gtr_t h)
theorem ygtrF (h : ¬ y < x) (ho : o.op = .binOp .gtr t xo yo tt := by exact rfl) (hx : ev l xo = some (.int kd x) := by exact rfl) (hy : ev l yo = some (.int kd y) := by exact rfl) : Yld P N l o w (.bool false) := y_binop ho hx hy (r_gtr_f h)
theorem yeqlT (h : x = y) (ho : o.op = .binOp .eql t xo yo tt := by exact rfl) (hx : ev l xo = some (.int kd x) := by exact rfl) (hy : ev l yo = some (.int kd y) := by exact rfl) : Yld P N l o w (.bool true) := y_binop ho hx hy (r_eql_t h)
theorem yeqlF (h : ¬ x = y) (ho : o.op = .binOp .eql t xo yo tt := by exact rfl) (hx : ev l xo = some (.int kd x) := by exact rfl) (hy : ev l yo = some (.int kd y) := by exact rfl) : Yld P N l o w (.bool false) := y_binop ho hx hy (r_eql_f h)
theorem dneqT (ho : o.op = .binOp .neq t xo yo tt := by exact rfl) (hx : ev l xo = some (.int kd x) := by exact rfl) (hy : ev l yo = some (.int kd y) := by exact rfl) (h : ¬ x = y := by decide) : Yld P N l o w (.bool true) := y_binop ho hx hy (r_neq_t h)
theorem dneqF (ho : o.op = .binOp .neq t xo yo tt := by exact rfl) (hx : ev l xo = some (.int kd x) := by exact rfl) (hy : ev l yo = some (.int kd y) := by exact rfl) (h : x = y := by decide) : Yld P N l o w (.bool false) := y_binop ho hx hy (r_neq_f h)
end
/-! ### Steps -/
section
variable {C : World → Prop} {Qa : Act → Prop} {j : Nat} {t : Nat} {u : Value} {x : Operand}
theorem vv (hy : Yld P N l o w v) (h : wL P N ops Q rest ((d, v) :: l) w) (hw : o.guard = none := by exact rfl) (hd : o.dst = some d := by exact rfl) (hN : Nat.blt d N = true := by exact rfl) : wL P N ops Q (o :: rest) l w := wL_val (wn hw) hd hN hy h
theorem vm (h : wL P N ops Q rest ((d, v) :: l) w) (hw : o.guard = none := by exact rfl) (hd : o.dst = some d := by exact rfl) (hN : Nat.blt d N = true := by exact rfl) (ho : o.op = .move x := by exact rfl) (hx : ev l x = some v := by exact rfl) : wL P N ops Q (o :: rest) l w := wL_val (wn hw) hd hN (y_move ho hx) h
theorem va (h : wL P N ops Q rest ((d, v) :: l) w) (hw : o.guard = none := by exact rfl) (hd : o.dst = some d := by exact rfl) (hN : Nat.blt d N = true := by exact rfl) (ho : o.op = .assign x := by exact rfl) (hx : ev l x = some v := by exact rfl) : wL P N ops Q (o :: rest) l w := wL_val (wn hw) hd hN (y_assign ho hx) h
theorem vg {b : Bool} (hy : Yld P N l o w v) (h : wL P N ops Q rest ((d, v) :: l) w) (hg : o.guard = some (j, b) := by exact rfl) (hj : (ops[j]?).bind (·.dst) = some t := by exact rfl) (hv : lk l t = some u := by exact rfl) (hr : (yl u == some b) = true := by exact rfl)
    (hd : o.dst = some d := by exact rfl) (hN : Nat.blt d N = true := by exact rfl) : wL P N ops Q (o :: rest) l w := wL_val (wg hg hj hv hr) hd hN hy h
theorem vs {b : Bool} (h : wL P N ops Q rest ((d, undef) :: l) w) (hg : o.guard = some (j, b) := by exact rfl) (hj : (ops[j]?).bind (·.dst) = some t := by exact rfl) (hv : lk l t = some u := by exact rfl) (hr : (yl u == some b) = false := by exact rfl) (hd : o.dst = some d := by exact rfl) (hN : Nat.blt d N = true := by exact rfl) : wL P N ops Q (o :: rest) l w := wL_skip (wg hg hj hv hr) hd hN h
theorem uv (hy : ∀ w, C w → Yld P N l o w v) (h : wU P N ops C Qa rest ((d, v) :: l)) (hw : o.guard = none := by exact rfl) (hd : o.dst = some d := by exact rfl) (hN : Nat.blt d N = true := by exact rfl) : wU P N ops C Qa (o :: rest) l := wU_val (wn hw) hd hN hy h
theorem ug {b : Bool} (hy : ∀ w, C w → Yld P N l o w v) (h : wU P N ops C Qa rest ((d, v) :: l)) (hg : o.guard = some (j, b) := by exact rfl) (hj : (ops[j]?).bind (·.dst) = some t := by exact rfl) (hv : lk l t = some u := by exact rfl) (hr : (yl u == some b) = true := by exact rfl)
    (hd : o.dst = some d := by exact rfl) (hN : Nat.blt d N = true := by exact rfl) : wU P N ops C Qa (o :: rest) l := wU_val (wg hg hj hv hr) hd hN hy h
theorem usk {b : Bool} (h : wU P N ops C Qa rest ((d, undef) :: l)) (hg : o.guard = some (j, b) := by exact rfl) (hj : (ops[j]?).bind (·.dst) = some t := by exact rfl) (hv : lk l t = some u := by exact rfl) (hr : (yl u == some b) = false := by exact rfl)
    (hd : o.dst = some d := by exact rfl) (hN : Nat.blt d N = true := by exact rfl) : wU P N ops C Qa (o :: rest) l := wU_skip (wg hg hj hv hr) hd hN h
theorem ak {n : Nat} {listed listed' : Array Bool} (i : Nat) (hi : ops[i]? = some o) (hS : C w) (hy : ∀ w, C w → Yld P N l o w v) (h : wA P N ops Q C n listed' ((d, v) :: l) w) (hs : Region.noSelect ops = true := by kernel_rfl) (hf : Region.free .any ops listed i = true := by kernel_rfl)
    (hr : (Region.ready .any ops listed).contains i = true := by kernel_rfl) (hl : listed.setIfInBounds i true = listed' := by exact rfl) (hw : o.guard = none := by exact rfl) (hd : o.dst = some d := by exact rfl) (hN : Nat.blt d N = true := by exact rfl) : wA P N ops Q C (n + 1) listed l w := wA_take hi hs hf hr hS hl (wn hw) hd hN hy h
theorem gk {n m : Nat} {listed listed' : Array Bool} (i : Nat) (hi : ops[i]? = some o) (hS : C w) (hy : ∀ w, C w → Yld P N l o w v) (h : wG P N ops Q C n m listed' ((d, v) :: l) w) (hs : Region.noSelect ops = true := by kernel_rfl) (hf : Region.free .any ops listed i = true := by kernel_rfl)
    (hr : (Region.ready .any ops listed).contains i = true := by kernel_rfl) (hnl : listed.getD n true = false := by exact rfl) (hni : waitsB ops n i = true := by kernel_rfl) (hne : Nat.beq n i = false := by exact rfl) (hl : listed.setIfInBounds i true = listed' := by exact rfl) (hw : o.guard = none := by exact rfl)
    (hd : o.dst = some d := by exact rfl) (hN : Nat.blt d N = true := by exact rfl) : wG P N ops Q C n (m + 1) listed l w := wG_take hi hs hf hr hnl hni hne hS hl (wn hw) hd hN hy h
theorem aq1 {n : Nat} {listed : Array Bool} (r : Nat) (h : wK P N ops Q C n r listed l w) (hr : Region.ready .any ops listed = [r] := by kernel_rfl) : wA P N ops Q C (n + 1) listed l w := wA_one hr h
end
/-! ### Memory and calls -/
section
variable {b m f : Nat} {row row' cs : Array Value} {t ty : TypeId} {x y : Operand} {ds : TypeDesc} {z u : Value}
theorem sa (i : Nat) (S : St B w0 w fs) (hz : (P.info? ty).map (·.size) = some m) (h : ∀ w', St B w0 w' fs' → wL P N ops Q rest l w') (hw : o.guard = none := by exact rfl) (hd : o.dst = none := by exact rfl) (ho : o.op = .store ty x y := by exact rfl)
    (hx : ev l x = some (.pointer (some ⟨b, 0, none⟩)) := by exact rfl) (hy : ev l y = some v := by exact rfl) (hi : fs[i]? = some (.blk b row t) := by exact rfl) (hv : v.cells = cs := by exact rfl) (hm : cs.size = m := by exact rfl)
    (h1 : cs.toList.all (·.oneCell') = true := by exact rfl) (hr : Nat.ble m row.size = true := by exact rfl) (hs : row.size = cs.size := by exact rfl) (hf : SetAt (.blk b cs t) fs i fs' := by repeat' first | exact SetAt.z | apply SetAt.s) : wL P N ops Q (o :: rest) l w :=
  wL_st i S (wn hw) hd ho hx hy hi hv hz hm (oneAll h1) (by rw [Nat.zero_add]; exact Nat.le_of_ble_eq_true hr) (setAll_all hs) hf.eq h
theorem sr {off : Nat} {row' : Array Value} (i : Nat) (S : St B w0 w fs) (hz : (P.info? ty).map (·.size) = some m) (h : ∀ w', St B w0 w' fs' → wL P N ops Q rest l w') (hw : o.guard = none := by exact rfl) (hd : o.dst = none := by exact rfl) (ho : o.op = .store ty x y := by exact rfl)
    (hx : ev l x = some (.pointer (some ⟨b, off, none⟩)) := by exact rfl) (hy : ev l y = some v := by exact rfl) (hi : fs[i]? = some (.blk b row t) := by exact rfl) (hv : v.cells = cs := by exact rfl) (hm : cs.size = m := by exact rfl)
    (h1 : cs.toList.all (·.oneCell') = true := by exact rfl) (hr : Nat.ble (off + m) row.size = true := by exact rfl) (hs : setAll row off cs.toList = row' := by exact rfl) (hf : SetAt (.blk b row' t) fs i fs' := by repeat' first | exact SetAt.z | apply SetAt.s) : wL P N ops Q (o :: rest) l w :=
  wL_st i S (wn hw) hd ho hx hy hi hv hz hm (oneAll h1) (Nat.le_of_ble_eq_true hr) hs hf.eq h
theorem sn {C : World → Prop} {n : Nat} {listed listed' : Array Bool} (j : Nat) (hi' : ops[j]? = some o) (i : Nat) (S : St B w0 w fs) (hz : (P.info? ty).map (·.size) = some m) (h : ∀ w', St B w0 w' fs' → C w' ∧ wA P N ops Q C n listed' l w') (hl : listed.setIfInBounds j true = listed' := by exact rfl)
    (hw : o.guard = none := by exact rfl) (hd : o.dst = none := by exact rfl) (ho : o.op = .store ty x y := by exact rfl) (hx : ev l x = some (.pointer (some ⟨b, 0, none⟩)) := by exact rfl) (hy : ev l y = some v := by exact rfl) (hi : fs[i]? = some (.blk b row t) := by exact rfl) (hv : v.cells = cs := by exact rfl)
    (hm : cs.size = m := by exact rfl) (h1 : cs.toList.all (·.oneCell') = true := by exact rfl) (hr : Nat.ble m row.size = true := by exact rfl) (hs : row.size = cs.size := by exact rfl) (hf : SetAt (.blk b cs t) fs i fs' := by repeat' first | exact SetAt.z | apply SetAt.s) : wK P N ops Q C n j listed l w :=
  wN_st hi' hl i S (wn hw) hd ho hx hy hi hv hz hm (oneAll h1) (by rw [Nat.zero_add]; exact Nat.le_of_ble_eq_true hr) (setAll_all hs) hf.eq h
theorem nna {C : World → Prop} {n : Nat} {listed listed' : Array Bool} {row : Array Value} (j : Nat) (hi' : ops[j]? = some o) (S : St B w0 w fs) (hz : ∀ w, (zeroValue t).run P w = .ok z w) (h : ∀ b w', St B w0 w' (.blk b row t :: fs) → C w' ∧ wA P N ops Q C n listed' ((d, .pointer (some ⟨b, 0, none⟩)) :: l) w')
    (hl : listed.setIfInBounds j true = listed' := by exact rfl) (hw : o.guard = none := by exact rfl) (hd : o.dst = some d := by exact rfl) (hN : Nat.blt d N = true := by exact rfl) (ho : o.op = .alloc t := by exact rfl) (hc : z.cells = row := by exact rfl) : wK P N ops Q C n j listed l w :=
  wN_new (V := fun b => .pointer (some ⟨b, 0, none⟩)) hi' hl S (wn hw) hd hN (d_alloc ho (hz w) hc) h
theorem na {row : Array Value} (S : St B w0 w fs) (hz : ∀ w, (zeroValue t).run P w = .ok z w) (h : ∀ b w', St B w0 w' (.blk b row t :: fs) → wL P N ops Q rest ((d, .pointer (some ⟨b, 0, none⟩)) :: l) w') (hw : o.guard = none := by exact rfl) (hd : o.dst = some d := by exact rfl)
    (hN : Nat.blt d N = true := by exact rfl) (ho : o.op = .alloc t := by exact rfl) (hc : z.cells = row := by exact rfl) : wL P N ops Q (o :: rest) l w := wL_new (V := fun b => .pointer (some ⟨b, 0, none⟩)) S (wn hw) hd hN (d_alloc ho (hz w) hc) h
theorem nb {row : Array Value} (S : St B w0 w fs) (h : ∀ b w', St B w0 w' (.blk b row t :: fs) → wL P N ops Q rest ((d, .pointer (some ⟨b, 0, none⟩)) :: l) w') (hw : o.guard = none := by exact rfl) (hd : o.dst = some d := by exact rfl)
    (hN : Nat.blt d N = true := by exact rfl) (ho : o.op = .box t x := by exact rfl) (hx : ev l x = some p := by exact rfl) (hc : p.cells = row := by exact rfl) : wL P N ops Q (o :: rest) l w := wL_new (V := fun b => .pointer (some ⟨b, 0, none⟩)) S (wn hw) hd hN (d_box ho hx hc) h
theorem cal {vs : List Value} {R : Ending → World → Prop} {xs : List Operand} {ts : Array TypeId} (heg : ∀ args w, (callFunc f args).run P w = .ok (.enter f args) w) (hc : Calls P f vs.toArray w R) (h : ∀ e w', R e w' → ∃ v, e = .returned v ∧ wL P N ops Q rest ((d, v) :: l) w')
    (hw : o.guard = none := by exact rfl) (hd : o.dst = some d := by exact rfl) (hN : Nat.blt d N = true := by exact rfl) (ho : o.op = .call { callee := .value (.func f), args := xs.toArray, argTypes := ts } := by exact rfl) (hx : Evs l xs vs := by repeat' first | exact trivial | refine ⟨rfl, ?_⟩) :
    wL P N ops Q (o :: rest) l w := wL_call (wn hw) hd hN (e_call ho heg hx) hc h
theorem cab {vs : List Value} {xs : List Operand} {ts : Array TypeId} (heg : ∀ args w, (callFunc f args).run P w = .ok (.enter f args) w) (S : St B w0 w fs) (hc : Calls P f vs.toArray w fun e w' => e = .returned v ∧ Below w.heap.size w w') (h : ∀ w', St B w0 w' fs → wL P N ops Q rest ((d, v) :: l) w')
    (hw : o.guard = none := by exact rfl) (hd : o.dst = some d := by exact rfl) (hN : Nat.blt d N = true := by exact rfl) (ho : o.op = .call { callee := .value (.func f), args := xs.toArray, argTypes := ts } := by exact rfl) (hx : Evs l xs vs := by repeat' first | exact trivial | refine ⟨rfl, ?_⟩) :
    wL P N ops Q (o :: rest) l w := wL_call (wn hw) hd hN (e_call ho heg hx) hc fun _ w' h' => ⟨v, h'.1, h w' (S.on h'.2)⟩
theorem pt {fn : Func} {R : Ending → World → Prop} {j : Nat} (hR : R (.returned (tupOf [v])) w) (hr : fn.results = [ResultVar.tmp j].toArray := by exact rfl) (h2 : lk l j = some v := by exact rfl) : wQ N (bodyPost P fn R) .ret l w := wQ_post (vs := [v]) hr ⟨h2, trivial⟩ hR
theorem fnw {fn : Func} {c : Code} {vs : List Value} {R : Ending → World → Prop} (N : Nat) (hf : P.funcs[f]? = some fn) (h : wC P N c (bodyPost P fn R) (ents 0 vs) w) (hb : fn.body = some c := by exact rfl) (hn : fn.ntmps = N := by exact rfl) (hN : Nat.ble vs.length N = true := by exact rfl) : Calls P f vs.toArray w R := calls_of_wC hf hb hn hN h
end
/-! ### Chains of steps of code -/
section
theorem x_tysr {c6 c8 : Code} {q3 : Exit → Act → World → Prop} {o4 : Operand} {i10 : Nat} {os9 : List Oper} (h : wL P N os9.toArray (Exit.then (c8.wp P q3) q3) os9 l w) (hc0 : ev l o4 = some (.bool true) := by exact rfl) : wQ N (Exit.then ((Code.cond o4 (Code.seq (Code.region i10 os9.toArray false) c8) c6).wp P q3) q3) .normal l w := wQ_then (wC_cond_t hc0 (wC_seq (wC_region h)))
theorem x_teh {q5 : Exit → Act → World → Prop} {k4 : Act → World → Prop} (h : wQ N q5 .ret l w) : wQ N (Exit.then (Code.ret.wp P (Exit.then k4 q5)) (Exit.then k4 q5)) .normal l w := wQ_then (wC_ret (wQ_then_ret h))
theorem x_tsr {c5 : Code} {q3 : Exit → Act → World → Prop} {i7 : Nat} {os6 : List Oper} (h : wL P N os6.toArray (Exit.then (c5.wp P q3) q3) os6 l w) : wQ N (Exit.then ((Code.seq (Code.region i7 os6.toArray false) c5).wp P q3) q3) .normal l w := wQ_then (wC_seq (wC_region h))
theorem x_tnsr {c5 c8 : Code} {q3 : Exit → Act → World → Prop} {o4 : Operand} {i10 : Nat} {os9 : List Oper} (h : wL P N os9.toArray (Exit.then (c8.wp P q3) q3) os9 l w) (hc0 : ev l o4 = some (.bool false) := by exact rfl) : wQ N (Exit.then ((Code.cond o4 c5 (Code.seq (Code.region i10 os9.toArray false) c8)).wp P q3) q3) .normal l w := wQ_then (wC_cond_f hc0 (wC_seq (wC_region h)))
theorem x_tssr {c5 c7 : Code} {q3 : Exit → Act → World → Prop} {i9 : Nat} {os8 : List Oper} (h : wL P N os8.toArray (Exit.then (c7.wp P (Exit.then (c5.wp P q3) q3)) (Exit.then (c5.wp P q3) q3)) os8 l w) : wQ N (Exit.then ((Code.seq (Code.seq (Code.region i9 os8.toArray false) c7) c5).wp P q3) q3) .normal l w := wQ_then (wC_seq (wC_seq (wC_region h)))
theorem x_te {q3 : Exit → Act → World → Prop} (h : wQ N q3 .ret l w) : wQ N (Exit.then (Code.ret.wp P q3) q3) .normal l w := wQ_then (wC_ret h)
theorem x_tnktsr {c5 c10 : Code} {q8 : Exit → Act → World → Prop} {o4 : Operand} {i12 : Nat} {os11 : List Oper} (h : wL P N os11.toArray (Exit.then (c10.wp P q8) q8) os11 l w) (hc0 : ev l o4 = some (.bool false) := by exact rfl) : wQ N (Exit.then ((Code.cond o4 c5 Code.skip).wp P (Exit.then ((Code.seq (Code.region i12 os11.toArray false) c10).wp P q8) q8)) (Exit.then ((Code.seq (Code.region i12 os11.toArray false) c10).wp P q8) q8)) .normal l w := wQ_then (wC_cond_f hc0 (wC_skip (wQ_then (wC_seq (wC_region h)))))
theorem x_tnktssr {c5 c10 c12 : Code} {q8 : Exit → Act → World → Prop} {o4 : Operand} {i14 : Nat} {os13 : List Oper} (h : wL P N os13.toArray (Exit.then (c12.wp P (Exit.then (c10.wp P q8) q8)) (Exit.then (c10.wp P q8) q8)) os13 l w) (hc0 : ev l o4 = some (.bool false) := by exact rfl) : wQ N (Exit.then ((Code.cond o4 c5 Code.skip).wp P (Exit.then ((Code.seq (Code.seq (Code.region i14 os13.toArray false) c12) c10).wp P q8) q8)) (Exit.then ((Code.seq (Code.seq (Code.region i14 os13.toArray false) c12) c10).wp P q8) q8)) .normal l w := wQ_then (wC_cond_f hc0 (wC_skip (wQ_then (wC_seq (wC_seq (wC_region h))))))
theorem x_tech {q7 : Exit → Act → World → Prop} {i4 : Nat} {k6 : Act → World → Prop} (h : wQ N q7 .ret l w) : wQ N (Exit.then (Code.ret.wp P (Exit.inBlock i4 (Exit.then k6 q7))) (Exit.inBlock i4 (Exit.then k6 q7))) .normal l w := wQ_then (wC_ret (wQ_blk_ret (wQ_then_ret h)))
theorem x_tr {q3 : Exit → Act → World → Prop} {i5 : Nat} {os4 : List Oper} (h : wL P N os4.toArray q3 os4 l w) : wQ N (Exit.then ((Code.region i5 os4.toArray false).wp P q3) q3) .normal l w := wQ_then (wC_region h)
theorem x_utssr {c7 c9 : Code} {q5 : Exit → Act → World → Prop} {i2 i11 : Nat} {os10 : List Oper} (h : wL P N os10.toArray (Exit.then (c9.wp P (Exit.then (c7.wp P q5) q5)) (Exit.then (c7.wp P q5) q5)) os10 l w) : wQ N (Exit.inBlock i2 (Exit.then ((Code.seq (Code.seq (Code.region i11 os10.toArray false) c9) c7).wp P q5) q5)) .normal l w := wQ_blk_n (wQ_then (wC_seq (wC_seq (wC_region h))))
theorem x_tbsr {c7 : Code} {q3 : Exit → Act → World → Prop} {i5 i9 : Nat} {os8 : List Oper} (h : wL P N os8.toArray (Exit.then (c7.wp P (Exit.inBlock i5 q3)) (Exit.inBlock i5 q3)) os8 l w) : wQ N (Exit.then ((Code.block i5 (Code.seq (Code.region i9 os8.toArray false) c7)).wp P q3) q3) .normal l w := wQ_then (wC_block (wC_seq (wC_region h)))
theorem x_sr {c4 : Code} {q2 : Exit → Act → World → Prop} {i6 : Nat} {os5 : List Oper} (h : wL P N os5.toArray (Exit.then (c4.wp P q2) q2) os5 l w) : wC P N (Code.seq (Code.region i6 os5.toArray false) c4) q2 l w := wC_seq (wC_region h)
end
end
end Go.Proofs.Ytkjlafpafmihaaa

