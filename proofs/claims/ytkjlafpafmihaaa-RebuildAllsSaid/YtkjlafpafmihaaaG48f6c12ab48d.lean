/- Parts of proofs: lemmas on memory, on single functions and on the plain models; no condition of their own. -/
import Derived.Test.YtkjlafpafmihaaaRows
import Derived.WalkKit
import Derived.ProofKit
import Derived.OpenShut
import Derived.SizedLaws
import Derived.WalkSpells
import Derived.WalkLawsBesides
import Derived.Handy
import Derived.Deep.QuietTactic
import Derived.BigQuiet
import Derived.Lib.Hide
import Derived.Maps.AppendAt
import Derived.Deep.AppendLies
import Derived.RegionTactic
import Derived.OwnWalk
import Derived.Laws.Tables
import Derived.Deep.MidRow
import Derived.StillTailTactics
import Derived.OrdersHeld
import Derived.Deep.RegionHeld3
import Derived.Laws.IdiomCopy
import Derived.ChangeKeysEq
import Derived.Laws.BitsAllLaws
import Derived.Test.YtkjlafpafmihaaaG411632d36699
import Derived.Test.YtkjlafpafmihaaaG4eaabf97d977
import Derived.Test.YtkjlafpafmihaaaG570539d87647
import Derived.Test.YtkjlafpafmihaaaG76ddf6bdedad
import Derived.Test.YtkjlafpafmihaaaG924ec51911fe
import Derived.Test.YtkjlafpafmihaaaGc8683f30ddc5
import Derived.Test.YtkjlafpafmihaaaGf03ab8b1ffd4
import Derived.Test.YtkjlafpafmihaaaGfa570c25a005
set_option linter.unusedVariables false
set_option linter.unusedSimpArgs false

namespace Go.Proofs.Ytkjlafpafmihaaa
open Go.ChangeShapes Go.WideShapes Go.ChangeAt Go.RowKit

theorem evo_s {l : Slots} {x : Operand} {v : Value} (h : ev l x = some v) : EvO l (some x) (some v) := h
theorem evo_n {l : Slots} : EvO l none none := trivial
section
variable {P : Program} {w : World} {t e : TypeId} {A : Option Addr} {n c s B : Nat} {xs : List Value} {kd ke kf : IntKind}
theorem sb_bound {i : Int} (k y : Nat) (code : BoundsCode) (hik : i = k) (hy : k ≤ y) (w : World) : (Instr.sliceBound (.int kd i) y code).run P w = .ok k w := by
  subst hik
  have h1 : (0 : Int) ≤ k ∧ (k : Int) ≤ y := by omega
  simp [Instr.sliceBound, asIntOf, Sem.run_bind, Result.andThen, h1, hy]
theorem sb_l {i : Int} (l : Nat) (hi : i = l) (h : l ≤ n) (w : World) : (Instr.sliceBounds true n c (some (.int kd i)) none none).run P w = .ok (l, n, c) w := by
  simp [Instr.sliceBounds, Sem.run_bind, Result.andThen, sb_bound l n _ hi h]
theorem sb_hm {j m : Int} (k q : Nat) (hj : j = k) (hm : m = q) (hkq : k ≤ q) (h : q ≤ c) (w : World) : (Instr.sliceBounds true n c none (some (.int ke j)) (some (.int kf m))).run P w = .ok (0, k, q) w := by
  simp [Instr.sliceBounds, Sem.run_bind, Result.andThen, sb_bound q c _ hm h, sb_bound k q _ hj hkq]
theorem sb_lhm {i j m : Int} (l k q : Nat) (hi : i = l) (hj : j = k) (hm : m = q) (hlk : l ≤ k) (hkq : k ≤ q) (h : q ≤ c) (w : World) : (Instr.sliceBounds true n c (some (.int kd i)) (some (.int ke j)) (some (.int kf m))).run P w = .ok (l, k, q) w := by
  simp [Instr.sliceBounds, Sem.run_bind, Result.andThen, sb_bound q c _ hm h, sb_bound k q _ hj hkq, sb_bound l k _ hi hlk]
theorem add_block (a : Addr) (k : Nat) : a.block = (a.add k).block := by
  unfold Addr.add
  split <;> rfl
theorem slice_exw {lo hi mx : Option Value} {l k q : Nat} (hu : P.underlying t = some (.slice e)) (hz : (P.info? e).map (·.size) = some s) (hb : ∀ w, (Instr.sliceBounds true n c lo hi mx).run P w = .ok (l, k, q) w) (hlk : l ≤ k) (hkn : k ≤ n) (hkq : k ≤ q) :
    ∃ A', (∀ w, (Instr.sliceAt t (.slice A n c) lo hi mx).run P w = .ok (.slice A' (k - l) (q - l)) w) ∧ (∀ (w : World) (B : Nat) (xs : List Value), Rd w B s A n xs → Rd w B s A' (k - l) ((xs.drop (l * s)).take ((k - l) * s))) ∧ ∀ a', A' = some a' → ∃ a, A = some a ∧ a.block = a'.block := by
  obtain ⟨z, hq, hs⟩ : ∃ z, P.info? e = some z ∧ z.size = s := by
    cases h : P.info? e with
    | none => simp [h] at hz
    | some z => exact ⟨z, rfl, by simpa [h] using hz⟩
  refine ⟨if q = l then A else A.map (·.add (l * s)), fun w => ?_, ?_, ?_⟩
  · have h1 : (sizeOf e).run P w = .ok s w := by simp [sizeOf, typeInfo, hq, hs, Sem.run_bind, Result.andThen]
    simp [Instr.sliceAt, Instr.slice, run_underlying hu, Sem.run_bind, Result.andThen, hb, h1]
  · intro w B xs hR
    refine ⟨?_, fun hn => ?_⟩
    · rw [List.length_take, List.length_drop, hR.1, ← Nat.sub_mul]
      exact Nat.min_eq_left (Nat.mul_le_mul_right _ (by omega))
    · obtain ⟨b, off, rfl, hb, hcell⟩ := hR.2 (by omega)
      rw [if_neg (by omega)]
      refine ⟨b, off + l * s, ?_, hb, fun j u hu => ?_⟩
      · simp only [Option.map_some, Option.some.injEq]
        rw [Go.WideShapes.add_plain]
      · rw [Nat.add_assoc]
        refine hcell _ u ?_
        have hj : j < (k - l) * s := by
          have := (List.getElem?_eq_some_iff.1 hu).1
          rw [List.length_take] at this
          omega
        rw [List.getElem?_take_of_lt hj, List.getElem?_drop] at hu
        exact hu
  · intro a' h
    split at h
    · exact ⟨a', h, rfl⟩
    · cases A with
      | none => cases h
      | some a => cases h; exact ⟨a, rfl, add_block a _⟩
theorem r_min {x y : Int} {ts : Array TypeId} {ty : TypeId} {cs : Array Bool} : (builtin .min ts ty cs #[.int kd x, .int kd y]).run P w = .ok (.value (.int kd (min x y))) w := by
  have : (if y < x then y else x) = min x y := by split <;> omega
  simp [builtin, run_min_int2, Sem.run_bind, Result.andThen, this]
theorem r_minN {x y : Nat} {ts : Array TypeId} {ty : TypeId} {cs : Array Bool} : (builtin .min ts ty cs #[.int kd x, .int kd y]).run P w = .ok (.value (.int kd ((min x y : Nat) : Int))) w := by
  rw [r_min, show min (x : Int) (y : Int) = ((min x y : Nat) : Int) by omega]
theorem r_eqg {op : BinOp} {xo yo : Operand} {a b : Array Value} {v : Value} (hg : P.eqGuardType P.depth t = false) (h : (binOp op t (.agg a) (.agg b)).run P w = .ok v w) : (do eqGuard op t xo yo (.agg a) (.agg b); binOp op t (.agg a) (.agg b) : Sem Value).run P w = .ok v w := by
  have h1 : (eqGuard op t xo yo (.agg a) (.agg b)).run P w = .ok () w := by
    have hp : ∀ w, (program : Sem Program).run P w = .ok P w := fun _ => rfl
    unfold eqGuard
    cases op <;> first | rfl | simp [hp, Sem.run_bind, Result.andThen, hg]
  rw [Sem.run_bind, h1]
  exact h
end
end Go.Proofs.Ytkjlafpafmihaaa

namespace Go.Proofs.Ytkjlafpafmihaaa
open Go.ChangeShapes Go.WideShapes Go.RowKit

theorem inf3 : (Try.prog.info? 3).map (·.size) = some 1 := by kernel_rfl
theorem infz3 : (Try.prog.info? 3).map (fun i => (i.zero, i.size, i.bytes)) = some (some (.int .i64 0), 1, 8) := by kernel_rfl
theorem inf22 : (Try.prog.info? 22).map (·.size) = some 1 := by kernel_rfl
theorem inf23 : (Try.prog.info? 23).map (·.size) = some 1 := by kernel_rfl
theorem inf26 : (Try.prog.info? 26).map (·.size) = some 9 := by kernel_rfl
theorem inf27 : (Try.prog.info? 27).map (·.size) = some 36 := by kernel_rfl
theorem inf29 : (Try.prog.info? 29).map (·.size) = some 41 := by kernel_rfl
theorem fa29_0 (b o : Nat) (w : World) : (Instr.fieldAt 29 (.pointer (some ⟨b, o, none⟩)) 0).run Try.prog w = .ok (.pointer (some ⟨b, o, none⟩)) w := by kernel_rfl
theorem fa29_1 (b o : Nat) (w : World) : (Instr.fieldAt 29 (.pointer (some ⟨b, o, none⟩)) 1).run Try.prog w = .ok (.pointer (some ⟨b, o + 1, none⟩)) w := by kernel_rfl
theorem fa29_2 (b o : Nat) (w : World) : (Instr.fieldAt 29 (.pointer (some ⟨b, o, none⟩)) 2).run Try.prog w = .ok (.pointer (some ⟨b, o + 2, none⟩)) w := by kernel_rfl
theorem fa29_3 (b o : Nat) (w : World) : (Instr.fieldAt 29 (.pointer (some ⟨b, o, none⟩)) 3).run Try.prog w = .ok (.pointer (some ⟨b, o + 3, none⟩)) w := by kernel_rfl
theorem fa29_4 (b o : Nat) (w : World) : (Instr.fieldAt 29 (.pointer (some ⟨b, o, none⟩)) 4).run Try.prog w = .ok (.pointer (some ⟨b, o + 4, none⟩)) w := by kernel_rfl
theorem fa29_5 (b o : Nat) (w : World) : (Instr.fieldAt 29 (.pointer (some ⟨b, o, none⟩)) 5).run Try.prog w = .ok (.pointer (some ⟨b, o + 5, none⟩)) w := by kernel_rfl
theorem inf35 : (Try.prog.info? 35).map (·.size) = some 2 := by kernel_rfl
theorem fa35_0 (b o : Nat) (w : World) : (Instr.fieldAt 35 (.pointer (some ⟨b, o, none⟩)) 0).run Try.prog w = .ok (.pointer (some ⟨b, o, none⟩)) w := by kernel_rfl
theorem fa35_1 (b o : Nat) (w : World) : (Instr.fieldAt 35 (.pointer (some ⟨b, o, none⟩)) 1).run Try.prog w = .ok (.pointer (some ⟨b, o + 1, none⟩)) w := by kernel_rfl
theorem inf37 : (Try.prog.info? 37).map (·.size) = some 6 := by kernel_rfl
theorem infz37 : (Try.prog.info? 37).map (fun i => (i.zero, i.size, i.bytes)) = some (some (.agg #[.int .i64 0, .int .i64 0, .int .i64 0, .int .i64 0, .int .i64 0, .int .i64 0]), 6, 48) := by kernel_rfl
theorem fa37_0 (b o : Nat) (w : World) : (Instr.fieldAt 37 (.pointer (some ⟨b, o, none⟩)) 0).run Try.prog w = .ok (.pointer (some ⟨b, o, none⟩)) w := by kernel_rfl
theorem fa37_1 (b o : Nat) (w : World) : (Instr.fieldAt 37 (.pointer (some ⟨b, o, none⟩)) 1).run Try.prog w = .ok (.pointer (some ⟨b, o + 1, none⟩)) w := by kernel_rfl
theorem fa37_2 (b o : Nat) (w : World) : (Instr.fieldAt 37 (.pointer (some ⟨b, o, none⟩)) 2).run Try.prog w = .ok (.pointer (some ⟨b, o + 2, none⟩)) w := by kernel_rfl
theorem fa37_3 (b o : Nat) (w : World) : (Instr.fieldAt 37 (.pointer (some ⟨b, o, none⟩)) 3).run Try.prog w = .ok (.pointer (some ⟨b, o + 3, none⟩)) w := by kernel_rfl
theorem fa37_4 (b o : Nat) (w : World) : (Instr.fieldAt 37 (.pointer (some ⟨b, o, none⟩)) 4).run Try.prog w = .ok (.pointer (some ⟨b, o + 4, none⟩)) w := by kernel_rfl
theorem inf51 : (Try.prog.info? 51).map (·.size) = some 10 := by kernel_rfl
theorem infz51 : (Try.prog.info? 51).map (fun i => (i.zero, i.size, i.bytes)) = some (some (.agg #[.int .i64 0, .int .i64 0, .int .i64 0, .int .i64 0, .int .i64 0, .int .i64 0, .int .i64 0, .int .i64 0, .int .i64 0, .int .i64 0]), 10, 80) := by kernel_rfl
theorem fa51_0 (b o : Nat) (w : World) : (Instr.fieldAt 51 (.pointer (some ⟨b, o, none⟩)) 0).run Try.prog w = .ok (.pointer (some ⟨b, o, none⟩)) w := by kernel_rfl
theorem fa51_1 (b o : Nat) (w : World) : (Instr.fieldAt 51 (.pointer (some ⟨b, o, none⟩)) 1).run Try.prog w = .ok (.pointer (some ⟨b, o + 1, none⟩)) w := by kernel_rfl
theorem fa51_2 (b o : Nat) (w : World) : (Instr.fieldAt 51 (.pointer (some ⟨b, o, none⟩)) 2).run Try.prog w = .ok (.pointer (some ⟨b, o + 2, none⟩)) w := by kernel_rfl
theorem fa51_3 (b o : Nat) (w : World) : (Instr.fieldAt 51 (.pointer (some ⟨b, o, none⟩)) 3).run Try.prog w = .ok (.pointer (some ⟨b, o + 3, none⟩)) w := by kernel_rfl
theorem fa51_4 (b o : Nat) (w : World) : (Instr.fieldAt 51 (.pointer (some ⟨b, o, none⟩)) 4).run Try.prog w = .ok (.pointer (some ⟨b, o + 4, none⟩)) w := by kernel_rfl
theorem inf57 : (Try.prog.info? 57).map (·.size) = some 1 := by kernel_rfl
theorem inf93 : (Try.prog.info? 93).map (·.size) = some 4 := by kernel_rfl
theorem infz93 : (Try.prog.info? 93).map (fun i => (i.zero, i.size, i.bytes)) = some (some (.agg #[.int .i64 0, .int .i64 0, .int .i64 0, .int .i64 0]), 4, 32) := by kernel_rfl
theorem inf103 : (Try.prog.info? 103).map (·.size) = some 1 := by kernel_rfl
theorem inf108 : (Try.prog.info? 108).map (·.size) = some 6 := by kernel_rfl
theorem infz108 : (Try.prog.info? 108).map (fun i => (i.zero, i.size, i.bytes)) = some (some (.agg #[.int .i64 0, .int .i64 0, .int .i64 0, .int .i64 0, .int .i64 0, .slice none 0 0]), 6, 64) := by kernel_rfl
theorem fa108_0 (b o : Nat) (w : World) : (Instr.fieldAt 108 (.pointer (some ⟨b, o, none⟩)) 0).run Try.prog w = .ok (.pointer (some ⟨b, o, none⟩)) w := by kernel_rfl
theorem fa108_1 (b o : Nat) (w : World) : (Instr.fieldAt 108 (.pointer (some ⟨b, o, none⟩)) 1).run Try.prog w = .ok (.pointer (some ⟨b, o + 1, none⟩)) w := by kernel_rfl
theorem fa108_2 (b o : Nat) (w : World) : (Instr.fieldAt 108 (.pointer (some ⟨b, o, none⟩)) 2).run Try.prog w = .ok (.pointer (some ⟨b, o + 2, none⟩)) w := by kernel_rfl
theorem fa108_3 (b o : Nat) (w : World) : (Instr.fieldAt 108 (.pointer (some ⟨b, o, none⟩)) 3).run Try.prog w = .ok (.pointer (some ⟨b, o + 3, none⟩)) w := by kernel_rfl
theorem fa108_4 (b o : Nat) (w : World) : (Instr.fieldAt 108 (.pointer (some ⟨b, o, none⟩)) 4).run Try.prog w = .ok (.pointer (some ⟨b, o + 4, none⟩)) w := by kernel_rfl
theorem fa108_5 (b o : Nat) (w : World) : (Instr.fieldAt 108 (.pointer (some ⟨b, o, none⟩)) 5).run Try.prog w = .ok (.pointer (some ⟨b, o + 5, none⟩)) w := by kernel_rfl
theorem inf137 : (Try.prog.info? 137).map (·.size) = some 2 := by kernel_rfl
theorem infz137 : (Try.prog.info? 137).map (fun i => (i.zero, i.size, i.bytes)) = some (some (.agg #[.int .i64 0, .int .i64 0]), 2, 16) := by kernel_rfl
theorem fa137_0 (b o : Nat) (w : World) : (Instr.fieldAt 137 (.pointer (some ⟨b, o, none⟩)) 0).run Try.prog w = .ok (.pointer (some ⟨b, o, none⟩)) w := by kernel_rfl
theorem fa137_1 (b o : Nat) (w : World) : (Instr.fieldAt 137 (.pointer (some ⟨b, o, none⟩)) 1).run Try.prog w = .ok (.pointer (some ⟨b, o + 1, none⟩)) w := by kernel_rfl
theorem inf141 : (Try.prog.info? 141).map (·.size) = some 4 := by kernel_rfl
theorem infz141 : (Try.prog.info? 141).map (fun i => (i.zero, i.size, i.bytes)) = some (some (.agg #[.int .i64 0, .int .i64 0, .int .i64 0, .int .i64 0]), 4, 32) := by kernel_rfl
theorem fa141_0 (b o : Nat) (w : World) : (Instr.fieldAt 141 (.pointer (some ⟨b, o, none⟩)) 0).run Try.prog w = .ok (.pointer (some ⟨b, o, none⟩)) w := by kernel_rfl
theorem fa141_1 (b o : Nat) (w : World) : (Instr.fieldAt 141 (.pointer (some ⟨b, o, none⟩)) 1).run Try.prog w = .ok (.pointer (some ⟨b, o + 2, none⟩)) w := by kernel_rfl
theorem fa190_0 (b o : Nat) (w : World) : (Instr.fieldAt 190 (.pointer (some ⟨b, o, none⟩)) 0).run Try.prog w = .ok (.pointer (some ⟨b, o, none⟩)) w := by kernel_rfl
theorem fa203_0 (b o : Nat) (w : World) : (Instr.fieldAt 203 (.pointer (some ⟨b, o, none⟩)) 0).run Try.prog w = .ok (.pointer (some ⟨b, o, none⟩)) w := by kernel_rfl
theorem fa203_1 (b o : Nat) (w : World) : (Instr.fieldAt 203 (.pointer (some ⟨b, o, none⟩)) 1).run Try.prog w = .ok (.pointer (some ⟨b, o + 41, none⟩)) w := by kernel_rfl
theorem en30 (args : Array Value) (w : World) : (callFunc 30 args).run Try.prog w = .ok (.enter 30 args) w := enters_of_ Try.func30 (by kernel_rfl) rfl args w
theorem en32 (args : Array Value) (w : World) : (callFunc 32 args).run Try.prog w = .ok (.enter 32 args) w := enters_of_ Try.func32 (by kernel_rfl) rfl args w
theorem en63 (args : Array Value) (w : World) : (callFunc 63 args).run Try.prog w = .ok (.enter 63 args) w := enters_of_ Try.func63 (by kernel_rfl) rfl args w
theorem en66 (args : Array Value) (w : World) : (callFunc 66 args).run Try.prog w = .ok (.enter 66 args) w := enters_of_ Try.func66 (by kernel_rfl) rfl args w
theorem en67 (args : Array Value) (w : World) : (callFunc 67 args).run Try.prog w = .ok (.enter 67 args) w := enters_of_ Try.func67 (by kernel_rfl) rfl args w
theorem en70 (args : Array Value) (w : World) : (callFunc 70 args).run Try.prog w = .ok (.enter 70 args) w := enters_of_ Try.func70 (by kernel_rfl) rfl args w
theorem en71 (args : Array Value) (w : World) : (callFunc 71 args).run Try.prog w = .ok (.enter 71 args) w := enters_of_ Try.func71 (by kernel_rfl) rfl args w
theorem en72 (args : Array Value) (w : World) : (callFunc 72 args).run Try.prog w = .ok (.enter 72 args) w := enters_of_ Try.func72 (by kernel_rfl) rfl args w
theorem en76 (args : Array Value) (w : World) : (callFunc 76 args).run Try.prog w = .ok (.enter 76 args) w := enters_of_ Try.func76 (by kernel_rfl) rfl args w
theorem en78 (args : Array Value) (w : World) : (callFunc 78 args).run Try.prog w = .ok (.enter 78 args) w := enters_of_ Try.func78 (by kernel_rfl) rfl args w
theorem en79 (args : Array Value) (w : World) : (callFunc 79 args).run Try.prog w = .ok (.enter 79 args) w := enters_of_ Try.func79 (by kernel_rfl) rfl args w
theorem en81 (args : Array Value) (w : World) : (callFunc 81 args).run Try.prog w = .ok (.enter 81 args) w := enters_of_ Try.func81 (by kernel_rfl) rfl args w
theorem en82 (args : Array Value) (w : World) : (callFunc 82 args).run Try.prog w = .ok (.enter 82 args) w := enters_of_ Try.func82 (by kernel_rfl) rfl args w
theorem en88 (args : Array Value) (w : World) : (callFunc 88 args).run Try.prog w = .ok (.enter 88 args) w := enters_of_ Try.func88 (by kernel_rfl) rfl args w
theorem en89 (args : Array Value) (w : World) : (callFunc 89 args).run Try.prog w = .ok (.enter 89 args) w := enters_of_ Try.func89 (by kernel_rfl) rfl args w
theorem en96 (args : Array Value) (w : World) : (callFunc 96 args).run Try.prog w = .ok (.enter 96 args) w := enters_of_ Try.func96 (by kernel_rfl) rfl args w
theorem en98 (args : Array Value) (w : World) : (callFunc 98 args).run Try.prog w = .ok (.enter 98 args) w := enters_of_ Try.func98 (by kernel_rfl) rfl args w
theorem en99 (args : Array Value) (w : World) : (callFunc 99 args).run Try.prog w = .ok (.enter 99 args) w := enters_of_ Try.func99 (by kernel_rfl) rfl args w
theorem en100 (args : Array Value) (w : World) : (callFunc 100 args).run Try.prog w = .ok (.enter 100 args) w := enters_of_ Try.func100 (by kernel_rfl) rfl args w
theorem en101 (args : Array Value) (w : World) : (callFunc 101 args).run Try.prog w = .ok (.enter 101 args) w := enters_of_ Try.func101 (by kernel_rfl) rfl args w
theorem en102 (args : Array Value) (w : World) : (callFunc 102 args).run Try.prog w = .ok (.enter 102 args) w := enters_of_ Try.func102 (by kernel_rfl) rfl args w
theorem en103 (args : Array Value) (w : World) : (callFunc 103 args).run Try.prog w = .ok (.enter 103 args) w := enters_of_ Try.func103 (by kernel_rfl) rfl args w
theorem en104 (args : Array Value) (w : World) : (callFunc 104 args).run Try.prog w = .ok (.enter 104 args) w := enters_of_ Try.func104 (by kernel_rfl) rfl args w
theorem en105 (args : Array Value) (w : World) : (callFunc 105 args).run Try.prog w = .ok (.enter 105 args) w := enters_of_ Try.func105 (by kernel_rfl) rfl args w
theorem en106 (args : Array Value) (w : World) : (callFunc 106 args).run Try.prog w = .ok (.enter 106 args) w := enters_of_ Try.func106 (by kernel_rfl) rfl args w
theorem en107 (args : Array Value) (w : World) : (callFunc 107 args).run Try.prog w = .ok (.enter 107 args) w := enters_of_ Try.func107 (by kernel_rfl) rfl args w
theorem en108 (args : Array Value) (w : World) : (callFunc 108 args).run Try.prog w = .ok (.enter 108 args) w := enters_of_ Try.func108 (by kernel_rfl) rfl args w
theorem en119 (args : Array Value) (w : World) : (callFunc 119 args).run Try.prog w = .ok (.enter 119 args) w := enters_of_ Try.func119 (by kernel_rfl) rfl args w
theorem en122 (args : Array Value) (w : World) : (callFunc 122 args).run Try.prog w = .ok (.enter 122 args) w := enters_of_ Try.func122 (by kernel_rfl) rfl args w
theorem en142 (args : Array Value) (w : World) : (callFunc 142 args).run Try.prog w = .ok (.enter 142 args) w := enters_of_ Try.func142 (by kernel_rfl) rfl args w
theorem en143 (args : Array Value) (w : World) : (callFunc 143 args).run Try.prog w = .ok (.enter 143 args) w := enters_of_ Try.func143 (by kernel_rfl) rfl args w
theorem en144 (args : Array Value) (w : World) : (callFunc 144 args).run Try.prog w = .ok (.enter 144 args) w := enters_of_ Try.func144 (by kernel_rfl) rfl args w
theorem en145 (args : Array Value) (w : World) : (callFunc 145 args).run Try.prog w = .ok (.enter 145 args) w := enters_of_ Try.func145 (by kernel_rfl) rfl args w
theorem en146 (args : Array Value) (w : World) : (callFunc 146 args).run Try.prog w = .ok (.enter 146 args) w := enters_of_ Try.func146 (by kernel_rfl) rfl args w
theorem en147 (args : Array Value) (w : World) : (callFunc 147 args).run Try.prog w = .ok (.enter 147 args) w := enters_of_ Try.func147 (by kernel_rfl) rfl args w
theorem en148 (args : Array Value) (w : World) : (callFunc 148 args).run Try.prog w = .ok (.enter 148 args) w := enters_of_ Try.func148 (by kernel_rfl) rfl args w
theorem en149 (args : Array Value) (w : World) : (callFunc 149 args).run Try.prog w = .ok (.enter 149 args) w := enters_of_ Try.func149 (by kernel_rfl) rfl args w
theorem en150 (args : Array Value) (w : World) : (callFunc 150 args).run Try.prog w = .ok (.enter 150 args) w := enters_of_ Try.func150 (by kernel_rfl) rfl args w
theorem en151 (args : Array Value) (w : World) : (callFunc 151 args).run Try.prog w = .ok (.enter 151 args) w := enters_of_ Try.func151 (by kernel_rfl) rfl args w
theorem en152 (args : Array Value) (w : World) : (callFunc 152 args).run Try.prog w = .ok (.enter 152 args) w := enters_of_ Try.func152 (by kernel_rfl) rfl args w
theorem en153 (args : Array Value) (w : World) : (callFunc 153 args).run Try.prog w = .ok (.enter 153 args) w := enters_of_ Try.func153 (by kernel_rfl) rfl args w
theorem en154 (args : Array Value) (w : World) : (callFunc 154 args).run Try.prog w = .ok (.enter 154 args) w := enters_of_ Try.func154 (by kernel_rfl) rfl args w
theorem en155 (args : Array Value) (w : World) : (callFunc 155 args).run Try.prog w = .ok (.enter 155 args) w := enters_of_ Try.func155 (by kernel_rfl) rfl args w
theorem en156 (args : Array Value) (w : World) : (callFunc 156 args).run Try.prog w = .ok (.enter 156 args) w := enters_of_ Try.func156 (by kernel_rfl) rfl args w
theorem en157 (args : Array Value) (w : World) : (callFunc 157 args).run Try.prog w = .ok (.enter 157 args) w := enters_of_ Try.func157 (by kernel_rfl) rfl args w
theorem en160 (args : Array Value) (w : World) : (callFunc 160 args).run Try.prog w = .ok (.enter 160 args) w := enters_of_ Try.func160 (by kernel_rfl) rfl args w
theorem en161 (args : Array Value) (w : World) : (callFunc 161 args).run Try.prog w = .ok (.enter 161 args) w := enters_of_ Try.func161 (by kernel_rfl) rfl args w
theorem en162 (args : Array Value) (w : World) : (callFunc 162 args).run Try.prog w = .ok (.enter 162 args) w := enters_of_ Try.func162 (by kernel_rfl) rfl args w
theorem en163 (args : Array Value) (w : World) : (callFunc 163 args).run Try.prog w = .ok (.enter 163 args) w := enters_of_ Try.func163 (by kernel_rfl) rfl args w
theorem en164 (args : Array Value) (w : World) : (callFunc 164 args).run Try.prog w = .ok (.enter 164 args) w := enters_of_ Try.func164 (by kernel_rfl) rfl args w
theorem en174 (args : Array Value) (w : World) : (callFunc 174 args).run Try.prog w = .ok (.enter 174 args) w := enters_of_ Try.func174 (by kernel_rfl) rfl args w
theorem en175 (args : Array Value) (w : World) : (callFunc 175 args).run Try.prog w = .ok (.enter 175 args) w := enters_of_ Try.func175 (by kernel_rfl) rfl args w
theorem en176 (args : Array Value) (w : World) : (callFunc 176 args).run Try.prog w = .ok (.enter 176 args) w := enters_of_ Try.func176 (by kernel_rfl) rfl args w
theorem en177 (args : Array Value) (w : World) : (callFunc 177 args).run Try.prog w = .ok (.enter 177 args) w := enters_of_ Try.func177 (by kernel_rfl) rfl args w
theorem en178 (args : Array Value) (w : World) : (callFunc 178 args).run Try.prog w = .ok (.enter 178 args) w := enters_of_ Try.func178 (by kernel_rfl) rfl args w
theorem en179 (args : Array Value) (w : World) : (callFunc 179 args).run Try.prog w = .ok (.enter 179 args) w := enters_of_ Try.func179 (by kernel_rfl) rfl args w
theorem en181 (args : Array Value) (w : World) : (callFunc 181 args).run Try.prog w = .ok (.enter 181 args) w := enters_of_ Try.func181 (by kernel_rfl) rfl args w
theorem en182 (args : Array Value) (w : World) : (callFunc 182 args).run Try.prog w = .ok (.enter 182 args) w := enters_of_ Try.func182 (by kernel_rfl) rfl args w
theorem en183 (args : Array Value) (w : World) : (callFunc 183 args).run Try.prog w = .ok (.enter 183 args) w := enters_of_ Try.func183 (by kernel_rfl) rfl args w
theorem en184 (args : Array Value) (w : World) : (callFunc 184 args).run Try.prog w = .ok (.enter 184 args) w := enters_of_ Try.func184 (by kernel_rfl) rfl args w
theorem en185 (args : Array Value) (w : World) : (callFunc 185 args).run Try.prog w = .ok (.enter 185 args) w := enters_of_ Try.func185 (by kernel_rfl) rfl args w
theorem en186 (args : Array Value) (w : World) : (callFunc 186 args).run Try.prog w = .ok (.enter 186 args) w := enters_of_ Try.func186 (by kernel_rfl) rfl args w
theorem en187 (args : Array Value) (w : World) : (callFunc 187 args).run Try.prog w = .ok (.enter 187 args) w := enters_of_ Try.func187 (by kernel_rfl) rfl args w
theorem en188 (args : Array Value) (w : World) : (callFunc 188 args).run Try.prog w = .ok (.enter 188 args) w := enters_of_ Try.func188 (by kernel_rfl) rfl args w
theorem en193 (args : Array Value) (w : World) : (callFunc 193 args).run Try.prog w = .ok (.enter 193 args) w := enters_of_ Try.func193 (by kernel_rfl) rfl args w
theorem mixed : Try.prog.follows .mixedOrders = true := by kernel_rfl
end Go.Proofs.Ytkjlafpafmihaaa

namespace Go.Proofs.Ytkjlafpafmihaaa
open Go.ChangeShapes Go.WideShapes Go.ChangeAt Go.RowKit
section
variable {P : Program} {N : Nat} {l : Slots} {o : Oper} {w w' w0 : World} {B : Nat} {fs : List Fact}
theorem e_callv {f : FuncId} {first cap us : List Value} {x : Operand} {xs : List Operand} {ts : Array TypeId} {vs : List Value} (ho : o.op = .call { callee := .value x, args := xs.toArray, argTypes := ts }) (hv : ev l x = some (.func (.func f) first.toArray cap.toArray))
    (heg : ∀ args w, (callFunc f args).run P w = .ok (.enter f args) w) (hx : Evs l xs vs) (hu : first ++ vs ++ cap = us) : Enter P N l o w f us := fun a F => by
  subst hu
  have h1 := F.evs hx
  unfold execOp
  simp only [ho, resolve, F.ev hv, Deferred.ofValue, invoke, Sem.run_bind, Sem.run_pure, Result.andThen_ok, List.map_toArray, h1]
  simp [heg]
theorem y_makeFunc {f : Fn} {xs ys : List Operand} {vs us : List Value} (ho : o.op = .makeFunc f xs.toArray ys.toArray) (hx : Evs l xs vs) (hy : Evs l ys us) : Yld P N l o w (.func f vs.toArray us.toArray) := fun a F => by
  have h1 := F.evs hx
  have h2 := F.evs hy
  unfold execOp
  simp only [ho, List.map_toArray, h1, h2]
  rfl
theorem blk_rd {b off s n : Nat} {row : Array Value} {t : TypeId} {xs : List Value} (i : Nat) (S : St B w0 w fs) (hi : fs[i]? = some (.blk b row t)) (hl : xs.length = n * s) (hx : ∀ (j : Nat) (u : Value), xs[j]? = some u → row[off + j]? = some u) : Rd w w.heap.size s (some ⟨b, off, none⟩) n xs :=
  ⟨hl, fun _ => ⟨b, off, rfl, S.lt i hi, fun j u hu => S.cl i hi (hx j u hu)⟩⟩
theorem own_some {base : Nat} {e : TypeId} {size n c : Nat} {A : Option Addr} {xs : List Value} (h : w.ownsRow base e size (.slice A n c) n xs) (hn : 0 < n) : ∃ g, A = some ⟨g, 0, none⟩ := by
  rcases h.2 with ⟨_, h0⟩ | ⟨g, cap, cur, hv, _⟩
  · omega
  · exact ⟨g, by injection hv⟩
theorem St.reown {e e' : TypeId} {s s' : Nat} {g n c n' c' : Nat} {xs xs' : List Value} (i : Nat) (S : St B w0 w fs) (hi : fs[i]? = some (.own e s (.slice (some ⟨g, 0, none⟩) n c) n xs)) (hu : Upd w g w') (ho : w'.ownsRow B e' s' (.slice (some ⟨g, 0, none⟩) n' c') n' xs') :
    St B w0 w' (fs.set i (.own e' s' (.slice (some ⟨g, 0, none⟩) n' c') n' xs')) :=
  S.turn i hi (hu.next S.low (Fact.foot_lt (S.all i _ hi) rfl).1) (Nat.le_of_eq hu.size.symm) (fun k _ hk => hu.block k (fun e => hk (by rw [e]; rfl))) ho (fun k hk => .inl hk)
theorem fm_erase {α : Type} {enc : α → List Value} {sz : Nat} (hsz : ∀ x, (enc x).length = sz) : ∀ (k : Nat) (l : List α), (l.flatMap enc).take (k * sz) ++ (l.flatMap enc).drop ((k + 1) * sz) = (l.eraseIdx k).flatMap enc
  | 0, [] => by simp
  | 0, x :: l => by rw [List.flatMap_cons, Nat.zero_mul, List.take_zero, List.nil_append, Nat.zero_add, Nat.one_mul, List.drop_left' (hsz x)]; rfl
  | k + 1, [] => by simp
  | k + 1, x :: l => by
    rw [List.eraseIdx_cons_succ, List.flatMap_cons, List.flatMap_cons, ← fm_erase hsz k l, Nat.succ_mul k, Nat.succ_mul (k + 1), Nat.add_comm _ sz, Nat.add_comm _ sz, List.take_append, List.drop_append, hsz x]
    rw [List.take_of_length_le (by rw [hsz x]; omega), List.drop_of_length_le (by rw [hsz x]; omega), Nat.add_sub_cancel_left, Nat.add_sub_cancel_left, List.nil_append, List.append_assoc, Nat.succ_mul k, Nat.add_comm sz]
end
theorem rdo_nil {B : Nat} {w0 w : World} {fs : List Fact} {s : Nat} (S : St B w0 w fs) : St B w0 w (.rdo s none 0 [] :: fs) := S.cons ⟨Rd.none_, fun a h => by cases h⟩ fun k hk => by cases hk
end Go.Proofs.Ytkjlafpafmihaaa

namespace Go.Proofs.Ytkjlafpafmihaaa
open Go.ChangeShapes Go.WideShapes Go.RowKit
/-- Some of the slots, by their numbers. -/
inductive Pick (l : Slots) : List Nat → Slots → Prop
  | z : Pick l [] []
  | s {k : Nat} {ks : List Nat} {v : Value} {l' : Slots} : lk l k = some v → Pick l ks l' → Pick l (k :: ks) ((k, v) :: l')
theorem Pick.sub {l : Slots} {ks : List Nat} {l' : Slots} (h : Pick l ks l') : SubL l l' := by
  induction h with
  | z => exact trivial
  | s h _ ih => exact ⟨h, ih⟩
/-- A fact of a list in place of another. -/
inductive SetAt (f : Fact) : List Fact → Nat → List Fact → Prop
  | z {g : Fact} {fs : List Fact} : SetAt f (g :: fs) 0 (f :: fs)
  | s {g : Fact} {fs fs' : List Fact} {i : Nat} : SetAt f fs i fs' → SetAt f (g :: fs) (i + 1) (g :: fs')
theorem SetAt.eq {f : Fact} {fs fs' : List Fact} {i : Nat} (h : SetAt f fs i fs') : fs.set i f = fs' := by
  induction h with
  | z => rfl
  | s _ ih => rw [List.set_cons_succ, ih]
def delsF : List Nat → List Fact → List Fact
  | [], fs => fs
  | i :: is, fs => delsF is (fs.eraseIdx i)
theorem St.dels {B : Nat} {w0 w : World} : ∀ {fs : List Fact} (_ : St B w0 w fs) (is : List Nat), St B w0 w (delsF is fs)
  | _, S, [] => S
  | _, S, i :: is => (St.del i S).dels is
theorem elm {α : Type} {enc : α → List Value} {w : World} {B sz n : Nat} {A : Option Addr} {l : List α} (k : Nat) (h : Rd w B sz A n (l.flatMap enc)) (hk : k < n) (hs : ∀ x, (enc x).length = sz := by exact fun _ => rfl) (hz : Nat.blt 0 sz = true := by exact rfl) : ∃ x, l[k]? = some x := by
  have h1 := h.1
  rw [fm_len hs] at h1
  have h2 : l.length = n := Nat.eq_of_mul_eq_mul_right (Nat.le_of_ble_eq_true hz) h1
  exact ⟨_, List.getElem?_eq_getElem (by omega)⟩
section
variable {P : Program} {N : Nat} {l l' : Slots} {w w' w0 : World} {ops : Array Oper} {o : Oper} {rest : List Oper} {Q : Exit → Act → World → Prop} {d B : Nat} {v p : Value} {fs fs' : List Fact} {ex : Exit}
theorem qk (ks : List Nat) (h : wQ N Q .normal l' w) (hp : Pick l ks l' := by repeat' first | exact Pick.z | apply Pick.s rfl) : wL P N ops Q [] l w := wL_nil (wQ_sub hp.sub h)
theorem pk (ks : List Nat) (h : wQ N Q ex l' w) (hp : Pick l ks l' := by repeat' first | exact Pick.z | apply Pick.s rfl) : wQ N Q ex l w := wQ_sub hp.sub h
theorem cw {c : Code} (ks : List Nat) (h : wC P N c Q l' w) (hp : Pick l ks l' := by repeat' first | exact Pick.z | apply Pick.s rfl) : wC P N c Q l w := wC_sub hp.sub h
/-! ### What an operation yields -/
section
variable {x : Operand}
theorem ym (ho : o.op = .move x := by exact rfl) (hx : ev l x = some v := by exact rfl) : Yld P N l o w v := y_move ho hx
theorem ya (ho : o.op = .assign x := by exact rfl) (hx : ev l x = some v := by exact rfl) : Yld P N l o w v := y_assign ho hx
theorem yx {k : Nat} {vs : Array Value} (ho : o.op = .extract x k := by exact rfl) (hx : ev l x = some (.tuple vs) := by exact rfl) (hk : vs[k]? = some v := by exact rfl) : Yld P N l o w v := y_extract ho hx hk
theorem ypT {c y : Operand} (ho : o.op = .pick c x y := by exact rfl) (hc : ev l c = some (.bool true) := by exact rfl) (hx : ev l x = some v := by exact rfl) : Yld P N l o w v := y_pick_t ho hc hx
theorem ypF {c y : Operand} (ho : o.op = .pick c x y := by exact rfl) (hc : ev l c = some (.bool false) := by exact rfl) (hx : ev l y = some v := by exact rfl) : Yld P N l o w v := y_pick_f ho hc hx
theorem yno {t : TypeId} {b c : Bool} (ho : o.op = .unOp .not t x := by exact rfl) (hx : ev l x = some (.bool b) := by exact rfl) (hb : (!b) = c := by exact rfl) : Yld P N l o w (.bool c) := hb ▸ y_unop ho hx r_not
theorem ylr {b m : Nat} {row : Array Value} {tt t : TypeId} {ds : TypeDesc} (i : Nat) (S : St B w0 w fs) (hu : P.underlying t = some ds) (hz : (P.info? t).map (·.size) = some m) (ho : o.op = .load t x := by exact rfl) (hx : ev l x = some (.pointer (some ⟨b, 0, none⟩)) := by exact rfl)
    (hi : fs[i]? = some (.blk b row tt) := by exact rfl) (hd : ds.isRow = true := by exact rfl) (hm : row.size = m := by exact rfl) : Yld P N l o w (.agg row) := y_load ho hx (r_load_row i S hi hu hd hz hm)
theorem ylc {b k : Nat} {row : Array Value} {tt t : TypeId} {ds : TypeDesc} (i : Nat) (S : St B w0 w fs) (hu : P.underlying t = some ds) (ho : o.op = .load t x := by exact rfl) (hx : ev l x = some (.pointer (some ⟨b, k, none⟩)) := by exact rfl) (hd : ds.isRow = false := by exact rfl)
    (hi : fs[i]? = some (.blk b row tt) := by exact rfl) (hk : row[k]? = some v := by exact rfl) : Yld P N l o w v := y_load ho hx (r_load hu hd (St.cl i S hi hk))
theorem yfa {s : TypeId} {f b o0 : Nat} {g : Nat → Nat} (o' : Nat) (hf : ∀ (b o : Nat) (w : World), (Instr.fieldAt s (.pointer (some ⟨b, o, none⟩)) f).run P w = .ok (.pointer (some ⟨b, g o, none⟩)) w) (ho : o.op = .fieldAddr s x f := by exact rfl)
    (hx : ev l x = some (.pointer (some ⟨b, o0, none⟩)) := by exact rfl) (he : g o0 = o' := by exact rfl) : Yld P N l o w (.pointer (some ⟨b, o', none⟩)) := he ▸ y_fieldAddr ho hx (hf b o0 w)
theorem yzB {t : TypeId} (ho : o.op = .build t ([] : List (Nat × Operand)).toArray := by exact rfl) (hr : (Instr.build t ([] : List (Nat × Value)).toArray).run P w = .ok (.agg #[.int .i64 0, .int .i64 0, .int .i64 0, .int .i64 0, .int .i64 0, .slice none 0 0]) w := by kernel_rfl) : Yld P N l o w (.agg #[.int .i64 0, .int .i64 0, .int .i64 0, .int .i64 0, .int .i64 0, .slice none 0 0]) := y_build (vs := []) ho trivial hr
theorem yz {t : TypeId} (ho : o.op = .build t ([] : List (Nat × Operand)).toArray := by exact rfl) (hr : (Instr.build t ([] : List (Nat × Value)).toArray).run P w = .ok v w := by kernel_rfl) : Yld P N l o w v := y_build (vs := []) ho trivial hr
end
section
variable {t tt : TypeId} {kd : IntKind} {xo yo : Operand} {x y : Int}
theorem ylssT (h : x < y) (ho : o.op = .binOp .lss t xo yo tt := by exact rfl) (hx : ev l xo = some (.int kd x) := by exact rfl) (hy : ev l yo = some (.int kd y) := by exact rfl) : Yld P N l o w (.bool true) := y_binop ho hx hy (r_lss_t h)
theorem dlssT (ho : o.op = .binOp .lss t xo yo tt := by exact rfl) (hx : ev l xo = some (.int kd x) := by exact rfl) (hy : ev l yo = some (.int kd y) := by exact rfl) (h : x < y := by decide) : Yld P N l o w (.bool true) := y_binop ho hx hy (r_lss_t h)
theorem ylssF (h : ¬ x < y) (ho : o.op = .binOp .lss t xo yo tt := by exact rfl) (hx : ev l xo = some (.int kd x) := by exact rfl) (hy : ev l yo = some (.int kd y) := by exact rfl) : Yld P N l o w (.bool false) := y_binop ho hx hy (r_lss_f h)
theorem dlssF (ho : o.op = .binOp .lss t xo yo tt := by exact rfl) (hx : ev l xo = some (.int kd x) := by exact rfl) (hy : ev l yo = some (.int kd y) := by exact rfl) (h : ¬ x < y := by decide) : Yld P N l o w (.bool false) := y_binop ho hx hy (r_lss_f h)
theorem yleqT (h : x ≤ y) (ho : o.op = .binOp .leq t xo yo tt := by exact rfl) (hx : ev l xo = some (.int kd x) := by exact rfl) (hy : ev l yo = some (.int kd y) := by exact rfl) : Yld P N l o w (.bool true) := y_binop ho hx hy (r_leq_t h)
theorem dleqT (ho : o.op = .binOp .leq t xo yo tt := by exact rfl) (hx : ev l xo = some (.int kd x) := by exact rfl) (hy : ev l yo = some (.int kd y) := by exact rfl) (h : x ≤ y := by decide) : Yld P N l o w (.bool true) := y_binop ho hx hy (r_leq_t h)
theorem yleqF (h : ¬ x ≤ y) (ho : o.op = .binOp .leq t xo yo tt := by exact rfl) (hx : ev l xo = some (.int kd x) := by exact rfl) (hy : ev l yo = some (.int kd y) := by exact rfl) : Yld P N l o w (.bool false) := y_binop ho hx hy (r_leq_f h)
theorem dleqF (ho : o.op = .binOp .leq t xo yo tt := by exact rfl) (hx : ev l xo = some (.int kd x) := by exact rfl) (hy : ev l yo = some (.int kd y) := by exact rfl) (h : ¬ x ≤ y := by decide) : Yld P N l o w (.bool false) := y_binop ho hx hy (r_leq_f h)
theorem ygtrT (h : y < x) (ho : o.op = .binOp .gtr t xo yo tt := by exact rfl) (hx : ev l xo = some (.int kd x) := by exact rfl) (hy : ev l yo = some (.int kd y) := by exact rfl) : Yld P N l o w (.bool true) := y_binop ho hx hy (r_gtr_t h)
theorem ygtrF (h : ¬ y < x) (ho : o.op = .binOp .gtr t xo yo tt := by exact rfl) (hx : ev l xo = some (.int kd x) := by exact rfl) (hy : ev l yo = some (.int kd y) := by exact rfl) : Yld P N l o w (.bool false) := y_binop ho hx hy (r_gtr_f h)
theorem ygeqT (h : y ≤ x) (ho : o.op = .binOp .geq t xo yo tt := by exact rfl) (hx : ev l xo = some (.int kd x) := by exact rfl) (hy : ev l yo = some (.int kd y) := by exact rfl) : Yld P N l o w (.bool true) := y_binop ho hx hy (r_geq_t h)
theorem dgeqT (ho : o.op = .binOp .geq t xo yo tt := by exact rfl) (hx : ev l xo = some (.int kd x) := by exact rfl) (hy : ev l yo = some (.int kd y) := by exact rfl) (h : y ≤ x := by decide) : Yld P N l o w (.bool true) := y_binop ho hx hy (r_geq_t h)
theorem ygeqF (h : ¬ y ≤ x) (ho : o.op = .binOp .geq t xo yo tt := by exact rfl) (hx : ev l xo = some (.int kd x) := by exact rfl) (hy : ev l yo = some (.int kd y) := by exact rfl) : Yld P N l o w (.bool false) := y_binop ho hx hy (r_geq_f h)
theorem dgeqF (ho : o.op = .binOp .geq t xo yo tt := by exact rfl) (hx : ev l xo = some (.int kd x) := by exact rfl) (hy : ev l yo = some (.int kd y) := by exact rfl) (h : ¬ y ≤ x := by decide) : Yld P N l o w (.bool false) := y_binop ho hx hy (r_geq_f h)
theorem yeqlT (h : x = y) (ho : o.op = .binOp .eql t xo yo tt := by exact rfl) (hx : ev l xo = some (.int kd x) := by exact rfl) (hy : ev l yo = some (.int kd y) := by exact rfl) : Yld P N l o w (.bool true) := y_binop ho hx hy (r_eql_t h)
theorem deqlT (ho : o.op = .binOp .eql t xo yo tt := by exact rfl) (hx : ev l xo = some (.int kd x) := by exact rfl) (hy : ev l yo = some (.int kd y) := by exact rfl) (h : x = y := by decide) : Yld P N l o w (.bool true) := y_binop ho hx hy (r_eql_t h)
theorem yeqlF (h : ¬ x = y) (ho : o.op = .binOp .eql t xo yo tt := by exact rfl) (hx : ev l xo = some (.int kd x) := by exact rfl) (hy : ev l yo = some (.int kd y) := by exact rfl) : Yld P N l o w (.bool false) := y_binop ho hx hy (r_eql_f h)
theorem deqlF (ho : o.op = .binOp .eql t xo yo tt := by exact rfl) (hx : ev l xo = some (.int kd x) := by exact rfl) (hy : ev l yo = some (.int kd y) := by exact rfl) (h : ¬ x = y := by decide) : Yld P N l o w (.bool false) := y_binop ho hx hy (r_eql_f h)
theorem yneqT (h : ¬ x = y) (ho : o.op = .binOp .neq t xo yo tt := by exact rfl) (hx : ev l xo = some (.int kd x) := by exact rfl) (hy : ev l yo = some (.int kd y) := by exact rfl) : Yld P N l o w (.bool true) := y_binop ho hx hy (r_neq_t h)
theorem dneqT (ho : o.op = .binOp .neq t xo yo tt := by exact rfl) (hx : ev l xo = some (.int kd x) := by exact rfl) (hy : ev l yo = some (.int kd y) := by exact rfl) (h : ¬ x = y := by decide) : Yld P N l o w (.bool true) := y_binop ho hx hy (r_neq_t h)
theorem yneqF (h : x = y) (ho : o.op = .binOp .neq t xo yo tt := by exact rfl) (hx : ev l xo = some (.int kd x) := by exact rfl) (hy : ev l yo = some (.int kd y) := by exact rfl) : Yld P N l o w (.bool false) := y_binop ho hx hy (r_neq_f h)
theorem dneqF (ho : o.op = .binOp .neq t xo yo tt := by exact rfl) (hx : ev l xo = some (.int kd x) := by exact rfl) (hy : ev l yo = some (.int kd y) := by exact rfl) (h : x = y := by decide) : Yld P N l o w (.bool false) := y_binop ho hx hy (r_neq_f h)
end
/-! ### Steps -/
section
variable {C : World → Prop} {Qa : Act → Prop} {j : Nat} {t : Nat} {u : Value} {x : Operand}
theorem vv (hy : Yld P N l o w v) (h : wL P N ops Q rest ((d, v) :: l) w) (hw : o.guard = none := by exact rfl) (hd : o.dst = some d := by exact rfl) (hN : Nat.blt d N = true := by exact rfl) : wL P N ops Q (o :: rest) l w := wL_val (wn hw) hd hN hy h
theorem vm (h : wL P N ops Q rest ((d, v) :: l) w) (hw : o.guard = none := by exact rfl) (hd : o.dst = some d := by exact rfl) (hN : Nat.blt d N = true := by exact rfl) (ho : o.op = .move x := by exact rfl) (hx : ev l x = some v := by exact rfl) : wL P N ops Q (o :: rest) l w := wL_val (wn hw) hd hN (y_move ho hx) h
theorem va (h : wL P N ops Q rest ((d, v) :: l) w) (hw : o.guard = none := by exact rfl) (hd : o.dst = some d := by exact rfl) (hN : Nat.blt d N = true := by exact rfl) (ho : o.op = .assign x := by exact rfl) (hx : ev l x = some v := by exact rfl) : wL P N ops Q (o :: rest) l w := wL_val (wn hw) hd hN (y_assign ho hx) h
theorem vg {b : Bool} (hy : Yld P N l o w v) (h : wL P N ops Q rest ((d, v) :: l) w) (hg : o.guard = some (j, b) := by exact rfl) (hj : (ops[j]?).bind (·.dst) = some t := by exact rfl) (hv : lk l t = some u := by exact rfl) (hr : (yl u == some b) = true := by exact rfl)
    (hd : o.dst = some d := by exact rfl) (hN : Nat.blt d N = true := by exact rfl) : wL P N ops Q (o :: rest) l w := wL_val (wg hg hj hv hr) hd hN hy h
theorem vs {b : Bool} (h : wL P N ops Q rest ((d, undef) :: l) w) (hg : o.guard = some (j, b) := by exact rfl) (hj : (ops[j]?).bind (·.dst) = some t := by exact rfl) (hv : lk l t = some u := by exact rfl) (hr : (yl u == some b) = false := by exact rfl) (hd : o.dst = some d := by exact rfl) (hN : Nat.blt d N = true := by exact rfl) : wL P N ops Q (o :: rest) l w := wL_skip (wg hg hj hv hr) hd hN h
theorem uv (hy : ∀ w, C w → Yld P N l o w v) (h : wU P N ops C Qa rest ((d, v) :: l)) (hw : o.guard = none := by exact rfl) (hd : o.dst = some d := by exact rfl) (hN : Nat.blt d N = true := by exact rfl) : wU P N ops C Qa (o :: rest) l := wU_val (wn hw) hd hN hy h
theorem ug {b : Bool} (hy : ∀ w, C w → Yld P N l o w v) (h : wU P N ops C Qa rest ((d, v) :: l)) (hg : o.guard = some (j, b) := by exact rfl) (hj : (ops[j]?).bind (·.dst) = some t := by exact rfl) (hv : lk l t = some u := by exact rfl) (hr : (yl u == some b) = true := by exact rfl)
    (hd : o.dst = some d := by exact rfl) (hN : Nat.blt d N = true := by exact rfl) : wU P N ops C Qa (o :: rest) l := wU_val (wg hg hj hv hr) hd hN hy h
theorem usk {b : Bool} (h : wU P N ops C Qa rest ((d, undef) :: l)) (hg : o.guard = some (j, b) := by exact rfl) (hj : (ops[j]?).bind (·.dst) = some t := by exact rfl) (hv : lk l t = some u := by exact rfl) (hr : (yl u == some b) = false := by exact rfl)
    (hd : o.dst = some d := by exact rfl) (hN : Nat.blt d N = true := by exact rfl) : wU P N ops C Qa (o :: rest) l := wU_skip (wg hg hj hv hr) hd hN h
theorem ak {n : Nat} {listed listed' : Array Bool} (i : Nat) (hi : ops[i]? = some o) (hS : C w) (hy : ∀ w, C w → Yld P N l o w v) (h : wA P N ops Q C n listed' ((d, v) :: l) w) (hs : Region.noSelect ops = true := by kernel_rfl) (hf : Region.free .any ops listed i = true := by kernel_rfl)
    (hr : (Region.ready .any ops listed).contains i = true := by kernel_rfl) (hl : listed.setIfInBounds i true = listed' := by exact rfl) (hw : o.guard = none := by exact rfl) (hd : o.dst = some d := by exact rfl) (hN : Nat.blt d N = true := by exact rfl) : wA P N ops Q C (n + 1) listed l w := wA_take hi hs hf hr hS hl (wn hw) hd hN hy h
theorem gk {n m : Nat} {listed listed' : Array Bool} (i : Nat) (hi : ops[i]? = some o) (hS : C w) (hy : ∀ w, C w → Yld P N l o w v) (h : wG P N ops Q C n m listed' ((d, v) :: l) w) (hs : Region.noSelect ops = true := by kernel_rfl) (hf : Region.free .any ops listed i = true := by kernel_rfl)
    (hr : (Region.ready .any ops listed).contains i = true := by kernel_rfl) (hnl : listed.getD n true = false := by exact rfl) (hni : waitsB ops n i = true := by kernel_rfl) (hne : Nat.beq n i = false := by exact rfl) (hl : listed.setIfInBounds i true = listed' := by exact rfl) (hw : o.guard = none := by exact rfl)
    (hd : o.dst = some d := by exact rfl) (hN : Nat.blt d N = true := by exact rfl) : wG P N ops Q C n (m + 1) listed l w := wG_take hi hs hf hr hnl hni hne hS hl (wn hw) hd hN hy h
theorem aq1 {n : Nat} {listed : Array Bool} (r : Nat) (h : wK P N ops Q C n r listed l w) (hr : Region.ready .any ops listed = [r] := by kernel_rfl) : wA P N ops Q C (n + 1) listed l w := wA_one hr h
end
/-! ### Memory and calls -/
section
variable {b m f : Nat} {row row' cs : Array Value} {t ty : TypeId} {x y : Operand} {ds : TypeDesc} {z u : Value}
theorem sa (i : Nat) (S : St B w0 w fs) (hz : (P.info? ty).map (·.size) = some m) (h : ∀ w', St B w0 w' fs' → wL P N ops Q rest l w') (hw : o.guard = none := by exact rfl) (hd : o.dst = none := by exact rfl) (ho : o.op = .store ty x y := by exact rfl)
    (hx : ev l x = some (.pointer (some ⟨b, 0, none⟩)) := by exact rfl) (hy : ev l y = some v := by exact rfl) (hi : fs[i]? = some (.blk b row t) := by exact rfl) (hv : v.cells = cs := by exact rfl) (hm : cs.size = m := by exact rfl)
    (h1 : cs.toList.all (·.oneCell') = true := by exact rfl) (hr : Nat.ble m row.size = true := by exact rfl) (hs : row.size = cs.size := by exact rfl) (hf : SetAt (.blk b cs t) fs i fs' := by repeat' first | exact SetAt.z | apply SetAt.s) : wL P N ops Q (o :: rest) l w :=
  wL_st i S (wn hw) hd ho hx hy hi hv hz hm (oneAll h1) (by rw [Nat.zero_add]; exact Nat.le_of_ble_eq_true hr) (setAll_all hs) hf.eq h
theorem sr {off : Nat} {row' : Array Value} (i : Nat) (S : St B w0 w fs) (hz : (P.info? ty).map (·.size) = some m) (h : ∀ w', St B w0 w' fs' → wL P N ops Q rest l w') (hw : o.guard = none := by exact rfl) (hd : o.dst = none := by exact rfl) (ho : o.op = .store ty x y := by exact rfl)
    (hx : ev l x = some (.pointer (some ⟨b, off, none⟩)) := by exact rfl) (hy : ev l y = some v := by exact rfl) (hi : fs[i]? = some (.blk b row t) := by exact rfl) (hv : v.cells = cs := by exact rfl) (hm : cs.size = m := by exact rfl)
    (h1 : cs.toList.all (·.oneCell') = true := by exact rfl) (hr : Nat.ble (off + m) row.size = true := by exact rfl) (hs : setAll row off cs.toList = row' := by exact rfl) (hf : SetAt (.blk b row' t) fs i fs' := by repeat' first | exact SetAt.z | apply SetAt.s) : wL P N ops Q (o :: rest) l w :=
  wL_st i S (wn hw) hd ho hx hy hi hv hz hm (oneAll h1) (Nat.le_of_ble_eq_true hr) hs hf.eq h
theorem sn {C : World → Prop} {n : Nat} {listed listed' : Array Bool} (j : Nat) (hi' : ops[j]? = some o) (i : Nat) (S : St B w0 w fs) (hz : (P.info? ty).map (·.size) = some m) (h : ∀ w', St B w0 w' fs' → C w' ∧ wA P N ops Q C n listed' l w') (hl : listed.setIfInBounds j true = listed' := by exact rfl)
    (hw : o.guard = none := by exact rfl) (hd : o.dst = none := by exact rfl) (ho : o.op = .store ty x y := by exact rfl) (hx : ev l x = some (.pointer (some ⟨b, 0, none⟩)) := by exact rfl) (hy : ev l y = some v := by exact rfl) (hi : fs[i]? = some (.blk b row t) := by exact rfl) (hv : v.cells = cs := by exact rfl)
    (hm : cs.size = m := by exact rfl) (h1 : cs.toList.all (·.oneCell') = true := by exact rfl) (hr : Nat.ble m row.size = true := by exact rfl) (hs : row.size = cs.size := by exact rfl) (hf : SetAt (.blk b cs t) fs i fs' := by repeat' first | exact SetAt.z | apply SetAt.s) : wK P N ops Q C n j listed l w :=
  wN_st hi' hl i S (wn hw) hd ho hx hy hi hv hz hm (oneAll h1) (by rw [Nat.zero_add]; exact Nat.le_of_ble_eq_true hr) (setAll_all hs) hf.eq h
theorem nna {C : World → Prop} {n : Nat} {listed listed' : Array Bool} {row : Array Value} (j : Nat) (hi' : ops[j]? = some o) (S : St B w0 w fs) (hz : ∀ w, (zeroValue t).run P w = .ok z w) (h : ∀ b w', St B w0 w' (.blk b row t :: fs) → C w' ∧ wA P N ops Q C n listed' ((d, .pointer (some ⟨b, 0, none⟩)) :: l) w')
    (hl : listed.setIfInBounds j true = listed' := by exact rfl) (hw : o.guard = none := by exact rfl) (hd : o.dst = some d := by exact rfl) (hN : Nat.blt d N = true := by exact rfl) (ho : o.op = .alloc t := by exact rfl) (hc : z.cells = row := by exact rfl) : wK P N ops Q C n j listed l w :=
  wN_new (V := fun b => .pointer (some ⟨b, 0, none⟩)) hi' hl S (wn hw) hd hN (d_alloc ho (hz w) hc) h
theorem nnaB {C : World → Prop} {n : Nat} {listed listed' : Array Bool} (j : Nat) (hi' : ops[j]? = some o) (S : St B w0 w fs) (hz : ∀ w, (zeroValue t).run P w = .ok z w) (h : ∀ b w', St B w0 w' (.blk b #[.int .i64 0, .int .i64 0, .int .i64 0, .int .i64 0, .int .i64 0, .slice none 0 0] t :: fs) → C w' ∧ wA P N ops Q C n listed' ((d, .pointer (some ⟨b, 0, none⟩)) :: l) w')
    (hl : listed.setIfInBounds j true = listed' := by exact rfl) (hw : o.guard = none := by exact rfl) (hd : o.dst = some d := by exact rfl) (hN : Nat.blt d N = true := by exact rfl) (ho : o.op = .alloc t := by exact rfl) (hc : z.cells = #[.int .i64 0, .int .i64 0, .int .i64 0, .int .i64 0, .int .i64 0, .slice none 0 0] := by exact rfl) : wK P N ops Q C n j listed l w :=
  nna j hi' S hz h hl hw hd hN ho hc
theorem naB (S : St B w0 w fs) (hz : ∀ w, (zeroValue t).run P w = .ok z w) (h : ∀ b w', St B w0 w' (.blk b #[.int .i64 0, .int .i64 0, .int .i64 0, .int .i64 0, .int .i64 0, .slice none 0 0] t :: fs) → wL P N ops Q rest ((d, .pointer (some ⟨b, 0, none⟩)) :: l) w') (hw : o.guard = none := by exact rfl)
    (hd : o.dst = some d := by exact rfl) (hN : Nat.blt d N = true := by exact rfl) (ho : o.op = .alloc t := by exact rfl) (hc : z.cells = #[.int .i64 0, .int .i64 0, .int .i64 0, .int .i64 0, .int .i64 0, .slice none 0 0] := by exact rfl) : wL P N ops Q (o :: rest) l w := wL_new (V := fun b => .pointer (some ⟨b, 0, none⟩)) S (wn hw) hd hN (d_alloc ho (hz w) hc) h
theorem calg {vs : List Value} {R : Ending → World → Prop} {xs : List Operand} {ts : Array TypeId} {j tg : Nat} {bb : Bool} (heg : ∀ args w, (callFunc f args).run P w = .ok (.enter f args) w) (hc : Calls P f vs.toArray w R) (h : ∀ e w', R e w' → ∃ v, e = .returned v ∧ wL P N ops Q rest ((d, v) :: l) w')
    (hg : o.guard = some (j, bb) := by exact rfl) (hj : (ops[j]?).bind (·.dst) = some tg := by exact rfl) (hv : lk l tg = some u := by exact rfl) (hr : (yl u == some bb) = true := by exact rfl) (hd : o.dst = some d := by exact rfl) (hN : Nat.blt d N = true := by exact rfl)
    (ho : o.op = .call { callee := .value (.func f), args := xs.toArray, argTypes := ts } := by exact rfl) (hx : Evs l xs vs := by repeat' first | exact trivial | refine ⟨rfl, ?_⟩) : wL P N ops Q (o :: rest) l w := wL_call (wg hg hj hv hr) hd hN (e_call ho heg hx) hc h
theorem caln {C : World → Prop} {n : Nat} {listed listed' : Array Bool} {vs : List Value} {R : Ending → World → Prop} {xs : List Operand} {ts : Array TypeId} (j : Nat) (hi' : ops[j]? = some o) (heg : ∀ args w, (callFunc f args).run P w = .ok (.enter f args) w) (hc : Calls P f vs.toArray w R)
    (h : ∀ e w', R e w' → ∃ v, e = .returned v ∧ C w' ∧ wA P N ops Q C n listed' ((d, v) :: l) w') (hl : listed.setIfInBounds j true = listed' := by exact rfl) (hw : o.guard = none := by exact rfl) (hd : o.dst = some d := by exact rfl) (hN : Nat.blt d N = true := by exact rfl)
    (ho : o.op = .call { callee := .value (.func f), args := xs.toArray, argTypes := ts } := by exact rfl) (hx : Evs l xs vs := by repeat' first | exact trivial | refine ⟨rfl, ?_⟩) : wK P N ops Q C n j listed l w := wN_call_ hi' hl (wn hw) hd hN (e_call ho heg hx) hc h
theorem na {row : Array Value} (S : St B w0 w fs) (hz : ∀ w, (zeroValue t).run P w = .ok z w) (h : ∀ b w', St B w0 w' (.blk b row t :: fs) → wL P N ops Q rest ((d, .pointer (some ⟨b, 0, none⟩)) :: l) w') (hw : o.guard = none := by exact rfl) (hd : o.dst = some d := by exact rfl)
    (hN : Nat.blt d N = true := by exact rfl) (ho : o.op = .alloc t := by exact rfl) (hc : z.cells = row := by exact rfl) : wL P N ops Q (o :: rest) l w := wL_new (V := fun b => .pointer (some ⟨b, 0, none⟩)) S (wn hw) hd hN (d_alloc ho (hz w) hc) h
theorem nb {row : Array Value} (S : St B w0 w fs) (h : ∀ b w', St B w0 w' (.blk b row t :: fs) → wL P N ops Q rest ((d, .pointer (some ⟨b, 0, none⟩)) :: l) w') (hw : o.guard = none := by exact rfl) (hd : o.dst = some d := by exact rfl)
    (hN : Nat.blt d N = true := by exact rfl) (ho : o.op = .box t x := by exact rfl) (hx : ev l x = some p := by exact rfl) (hc : p.cells = row := by exact rfl) : wL P N ops Q (o :: rest) l w := wL_new (V := fun b => .pointer (some ⟨b, 0, none⟩)) S (wn hw) hd hN (d_box ho hx hc) h
theorem cal {vs : List Value} {R : Ending → World → Prop} {xs : List Operand} {ts : Array TypeId} (heg : ∀ args w, (callFunc f args).run P w = .ok (.enter f args) w) (hc : Calls P f vs.toArray w R) (h : ∀ e w', R e w' → ∃ v, e = .returned v ∧ wL P N ops Q rest ((d, v) :: l) w')
    (hw : o.guard = none := by exact rfl) (hd : o.dst = some d := by exact rfl) (hN : Nat.blt d N = true := by exact rfl) (ho : o.op = .call { callee := .value (.func f), args := xs.toArray, argTypes := ts } := by exact rfl) (hx : Evs l xs vs := by repeat' first | exact trivial | refine ⟨rfl, ?_⟩) :
    wL P N ops Q (o :: rest) l w := wL_call (wn hw) hd hN (e_call ho heg hx) hc h
theorem cab {vs : List Value} {xs : List Operand} {ts : Array TypeId} (heg : ∀ args w, (callFunc f args).run P w = .ok (.enter f args) w) (S : St B w0 w fs) (hc : Calls P f vs.toArray w fun e w' => e = .returned v ∧ Below w.heap.size w w') (h : ∀ w', St B w0 w' fs → wL P N ops Q rest ((d, v) :: l) w')
    (hw : o.guard = none := by exact rfl) (hd : o.dst = some d := by exact rfl) (hN : Nat.blt d N = true := by exact rfl) (ho : o.op = .call { callee := .value (.func f), args := xs.toArray, argTypes := ts } := by exact rfl) (hx : Evs l xs vs := by repeat' first | exact trivial | refine ⟨rfl, ?_⟩) :
    wL P N ops Q (o :: rest) l w := wL_call (wn hw) hd hN (e_call ho heg hx) hc fun _ w' h' => ⟨v, h'.1, h w' (S.on h'.2)⟩
theorem pc {fn : Func} {R : Ending → World → Prop} {tt k j : Nat} (i : Nat) (S : St B w0 w fs) (hu : P.underlying ty = some ds) (hz : (P.info? ty).map (·.size) = some m) (hR : R (.returned (tupOf [.agg row, v])) w) (hr : fn.results = [ResultVar.cell k ty, .tmp j].toArray := by exact rfl)
    (h1 : lk l k = some (.pointer (some ⟨b, 0, none⟩)) := by exact rfl) (h2 : lk l j = some v := by exact rfl) (hi : fs[i]? = some (.blk b row tt) := by exact rfl) (hd : ds.isRow = true := by exact rfl) (hm : row.size = m := by exact rfl) : wQ N (bodyPost P fn R) .ret l w :=
  wQ_post (vs := [.agg row, v]) hr ⟨⟨_, h1, res_row i S hi hu hd (by rw [hm]; exact hz)⟩, h2, trivial⟩ hR
theorem pt {fn : Func} {R : Ending → World → Prop} {j : Nat} (hR : R (.returned (tupOf [v])) w) (hr : fn.results = [ResultVar.tmp j].toArray := by exact rfl) (h2 : lk l j = some v := by exact rfl) : wQ N (bodyPost P fn R) .ret l w := wQ_post (vs := [v]) hr ⟨h2, trivial⟩ hR
theorem fnw {fn : Func} {c : Code} {vs : List Value} {R : Ending → World → Prop} (N : Nat) (hf : P.funcs[f]? = some fn) (h : wC P N c (bodyPost P fn R) (ents 0 vs) w) (hb : fn.body = some c := by exact rfl) (hn : fn.ntmps = N := by exact rfl) (hN : Nat.ble vs.length N = true := by exact rfl) : Calls P f vs.toArray w R := calls_of_wC hf hb hn hN h
end
/-! ### Chains of steps of code -/
section
theorem x_tysr {c6 c8 : Code} {q3 : Exit → Act → World → Prop} {o4 : Operand} {i10 : Nat} {os9 : List Oper} (h : wL P N os9.toArray (Exit.then (c8.wp P q3) q3) os9 l w) (hc0 : ev l o4 = some (.bool true) := by exact rfl) : wQ N (Exit.then ((Code.cond o4 (Code.seq (Code.region i10 os9.toArray false) c8) c6).wp P q3) q3) .normal l w := wQ_then (wC_cond_t hc0 (wC_seq (wC_region h)))
theorem x_teh {q5 : Exit → Act → World → Prop} {k4 : Act → World → Prop} (h : wQ N q5 .ret l w) : wQ N (Exit.then (Code.ret.wp P (Exit.then k4 q5)) (Exit.then k4 q5)) .normal l w := wQ_then (wC_ret (wQ_then_ret h))
theorem x_tsr {c5 : Code} {q3 : Exit → Act → World → Prop} {i7 : Nat} {os6 : List Oper} (h : wL P N os6.toArray (Exit.then (c5.wp P q3) q3) os6 l w) : wQ N (Exit.then ((Code.seq (Code.region i7 os6.toArray false) c5).wp P q3) q3) .normal l w := wQ_then (wC_seq (wC_region h))
theorem x_tnsr {c5 c8 : Code} {q3 : Exit → Act → World → Prop} {o4 : Operand} {i10 : Nat} {os9 : List Oper} (h : wL P N os9.toArray (Exit.then (c8.wp P q3) q3) os9 l w) (hc0 : ev l o4 = some (.bool false) := by exact rfl) : wQ N (Exit.then ((Code.cond o4 c5 (Code.seq (Code.region i10 os9.toArray false) c8)).wp P q3) q3) .normal l w := wQ_then (wC_cond_f hc0 (wC_seq (wC_region h)))
theorem x_tssr {c5 c7 : Code} {q3 : Exit → Act → World → Prop} {i9 : Nat} {os8 : List Oper} (h : wL P N os8.toArray (Exit.then (c7.wp P (Exit.then (c5.wp P q3) q3)) (Exit.then (c5.wp P q3) q3)) os8 l w) : wQ N (Exit.then ((Code.seq (Code.seq (Code.region i9 os8.toArray false) c7) c5).wp P q3) q3) .normal l w := wQ_then (wC_seq (wC_seq (wC_region h)))
theorem x_te {q3 : Exit → Act → World → Prop} (h : wQ N q3 .ret l w) : wQ N (Exit.then (Code.ret.wp P q3) q3) .normal l w := wQ_then (wC_ret h)
theorem x_tnktsr {c5 c10 : Code} {q8 : Exit → Act → World → Prop} {o4 : Operand} {i12 : Nat} {os11 : List Oper} (h : wL P N os11.toArray (Exit.then (c10.wp P q8) q8) os11 l w) (hc0 : ev l o4 = some (.bool false) := by exact rfl) : wQ N (Exit.then ((Code.cond o4 c5 Code.skip).wp P (Exit.then ((Code.seq (Code.region i12 os11.toArray false) c10).wp P q8) q8)) (Exit.then ((Code.seq (Code.region i12 os11.toArray false) c10).wp P q8) q8)) .normal l w := wQ_then (wC_cond_f hc0 (wC_skip (wQ_then (wC_seq (wC_region h)))))
theorem x_tnktssr {c5 c10 c12 : Code} {q8 : Exit → Act → World → Prop} {o4 : Operand} {i14 : Nat} {os13 : List Oper} (h : wL P N os13.toArray (Exit.then (c12.wp P (Exit.then (c10.wp P q8) q8)) (Exit.then (c10.wp P q8) q8)) os13 l w) (hc0 : ev l o4 = some (.bool false) := by exact rfl) : wQ N (Exit.then ((Code.cond o4 c5 Code.skip).wp P (Exit.then ((Code.seq (Code.seq (Code.region i14 os13.toArray false) c12) c10).wp P q8) q8)) (Exit.then ((Code.seq (Code.seq (Code.region i14 os13.toArray false) c12) c10).wp P q8) q8)) .normal l w := wQ_then (wC_cond_f hc0 (wC_skip (wQ_then (wC_seq (wC_seq (wC_region h))))))
theorem x_tech {q7 : Exit → Act → World → Prop} {i4 : Nat} {k6 : Act → World → Prop} (h : wQ N q7 .ret l w) : wQ N (Exit.then (Code.ret.wp P (Exit.inBlock i4 (Exit.then k6 q7))) (Exit.inBlock i4 (Exit.then k6 q7))) .normal l w := wQ_then (wC_ret (wQ_blk_ret (wQ_then_ret h)))
theorem x_tr {q3 : Exit → Act → World → Prop} {i5 : Nat} {os4 : List Oper} (h : wL P N os4.toArray q3 os4 l w) : wQ N (Exit.then ((Code.region i5 os4.toArray false).wp P q3) q3) .normal l w := wQ_then (wC_region h)
theorem x_utssr {c7 c9 : Code} {q5 : Exit → Act → World → Prop} {i2 i11 : Nat} {os10 : List Oper} (h : wL P N os10.toArray (Exit.then (c9.wp P (Exit.then (c7.wp P q5) q5)) (Exit.then (c7.wp P q5) q5)) os10 l w) : wQ N (Exit.inBlock i2 (Exit.then ((Code.seq (Code.seq (Code.region i11 os10.toArray false) c9) c7).wp P q5) q5)) .normal l w := wQ_blk_n (wQ_then (wC_seq (wC_seq (wC_region h))))
theorem x_tbsr {c7 : Code} {q3 : Exit → Act → World → Prop} {i5 i9 : Nat} {os8 : List Oper} (h : wL P N os8.toArray (Exit.then (c7.wp P (Exit.inBlock i5 q3)) (Exit.inBlock i5 q3)) os8 l w) : wQ N (Exit.then ((Code.block i5 (Code.seq (Code.region i9 os8.toArray false) c7)).wp P q3) q3) .normal l w := wQ_then (wC_block (wC_seq (wC_region h)))
theorem x_tyssr {c6 c8 c10 : Code} {q3 : Exit → Act → World → Prop} {o4 : Operand} {i12 : Nat} {os11 : List Oper} (h : wL P N os11.toArray (Exit.then (c10.wp P (Exit.then (c8.wp P q3) q3)) (Exit.then (c8.wp P q3) q3)) os11 l w) (hc0 : ev l o4 = some (.bool true) := by exact rfl) : wQ N (Exit.then ((Code.cond o4 (Code.seq (Code.seq (Code.region i12 os11.toArray false) c10) c8) c6).wp P q3) q3) .normal l w := wQ_then (wC_cond_t hc0 (wC_seq (wC_seq (wC_region h))))
theorem x_ssr {c4 c6 : Code} {q2 : Exit → Act → World → Prop} {i8 : Nat} {os7 : List Oper} (h : wL P N os7.toArray (Exit.then (c6.wp P (Exit.then (c4.wp P q2) q2)) (Exit.then (c4.wp P q2) q2)) os7 l w) : wC P N (Code.seq (Code.seq (Code.region i8 os7.toArray false) c6) c4) q2 l w := wC_seq (wC_seq (wC_region h))
theorem x_sr {c4 : Code} {q2 : Exit → Act → World → Prop} {i6 : Nat} {os5 : List Oper} (h : wL P N os5.toArray (Exit.then (c4.wp P q2) q2) os5 l w) : wC P N (Code.seq (Code.region i6 os5.toArray false) c4) q2 l w := wC_seq (wC_region h)
end
end
end Go.Proofs.Ytkjlafpafmihaaa

namespace Go.Proofs.Ytkjlafpafmihaaa
open Go.ChangeShapes Go.WideShapes Go.ChangeAt Go.RowKit
theorem fm_drop_ {α : Type} {enc : α → List Value} {sz : Nat} (hsz : ∀ x, (enc x).length = sz) : ∀ (k : Nat) (l : List α), (l.flatMap enc).drop (k * sz) = (l.drop k).flatMap enc
  | 0, l => by simp
  | k + 1, [] => by simp
  | k + 1, x :: l => by rw [List.flatMap_cons, Nat.succ_mul, Nat.add_comm, ← List.drop_drop, List.drop_left' (hsz x), fm_drop_ hsz k l]; rfl
theorem fm_take_ {α : Type} {enc : α → List Value} {sz : Nat} (hsz : ∀ x, (enc x).length = sz) : ∀ (k : Nat) (l : List α), (l.flatMap enc).take (k * sz) = (l.take k).flatMap enc
  | 0, l => by simp
  | k + 1, [] => by simp
  | k + 1, x :: l => by rw [List.flatMap_cons, Nat.succ_mul, Nat.add_comm, List.take_append, hsz x, List.take_of_length_le (by rw [hsz x]; omega), Nat.add_sub_cancel_left, fm_take_ hsz k l]; rfl
theorem eslice {P : Program} {t e : TypeId} {α : Type} {enc : α → List Value} {s : Nat} (hsz : ∀ x, (enc x).length = s) {A : Option Addr} {b : List α} {n c : Nat} {lo hi mx : Option Value} {l k q m c' : Nat} (hu : P.underlying t = some (.slice e)) (hz : (P.info? e).map (·.size) = some s) (hb : ∀ w, (Instr.sliceBounds true n c lo hi mx).run P w = .ok (l, k, q) w)
    (hlk : l ≤ k) (hkn : k ≤ n) (hkq : k ≤ q) (hm : k - l = m) (hc : q - l = c') : ∃ A', (∀ w, (Instr.sliceAt t (.slice A n c) lo hi mx).run P w = .ok (.slice A' m c') w) ∧ (∀ (w : World) (B : Nat), Rd w B s A n (b.flatMap enc) → Rd w B s A' m (((b.drop l).take m).flatMap enc)) ∧ ∀ a', A' = some a' → ∃ a, A = some a ∧ a.block = a'.block := by
  subst hm
  subst hc
  obtain ⟨A', h1, h2, h3⟩ := slice_exw (A := A) hu hz hb hlk hkn hkq
  refine ⟨A', h1, fun w B hR => ?_, h3⟩
  replace h2 := h2 w B _ hR
  rw [fm_drop_ hsz, fm_take_ hsz] at h2
  exact h2
end Go.Proofs.Ytkjlafpafmihaaa

namespace Go.Proofs.Ytkjlafpafmihaaa
open Go.ChangeShapes Go.WideShapes Go.RowKit
theorem cellEq_self : ∀ {v : Value} {s : Sh}, Kd v s → cellEq v v = true
  | _, .at_ (.int k), ⟨n, rfl⟩ => by simp [cellEq]
  | _, .at_ .bool, ⟨n, rfl⟩ => by simp [cellEq]
  | _, .at_ .str, ⟨n, rfl⟩ => by simp [cellEq]
  | _, .sl _ _, h => h.elim
theorem cellsEq_self : ∀ {xs : List Value} {l : List Sh}, All2 Kd xs l → cellsEq xs xs = true
  | [], [], _ => rfl
  | x :: xs, s :: l, h => by
    rw [cellsEq, cellEq_self h.1, cellsEq_self h.2]
    rfl
  | [], _ :: _, h => h.elim
  | _ :: _, [], h => h.elim
section
variable {P : Program} {w : World} {t : TypeId} {xo yo : Operand} {l : List Sh} {xs : List Value}
theorem run_neq_self (w : World) (hf : flat P 30 t = some l) (ho : eqOk P 30 t = true) (ha : ∀ xs, mkV P t xs = .agg xs.toArray) (hx : All2 Kd xs l) : (binOp .neq t (.agg xs.toArray) (.agg xs.toArray)).run P w = .ok (.bool false) w := by
  have h := run_neq_cells (P := P) w hf ho ha hx hx
  rw [cellsEq_self hx] at h
  exact h
end
end Go.Proofs.Ytkjlafpafmihaaa

