/- Parts of proofs: lemmas on memory, on single functions and on the plain models; no condition of their own. -/
import Derived.Test.YtkjlafpafmihaaaRows
import Derived.WalkKit
import Derived.ProofKit
import Derived.OpenShut
import Derived.SizedLaws
import Derived.WalkSpells
import Derived.WalkLawsBesides
import Derived.Handy
import Derived.Deep.QuietTactic
import Derived.BigQuiet
import Derived.Lib.Hide
import Derived.Maps.AppendAt
import Derived.Deep.AppendLies
import Derived.RegionTactic
import Derived.OwnWalk
import Derived.Laws.Tables
import Derived.Deep.MidRow
import Derived.StillTailTactics
import Derived.OrdersHeld
import Derived.Deep.RegionHeld3
import Derived.Laws.IdiomCopy
import Derived.ChangeKeysEq
import Derived.Laws.BitsAllLaws
import Derived.Test.YtkjlafpafmihaaaG53d9860cd554
import Derived.Test.YtkjlafpafmihaaaG5a4470397ed8
import Derived.Test.YtkjlafpafmihaaaG6c7d926bdf1e
import Derived.Test.YtkjlafpafmihaaaG8c8ada4b342a
import Derived.Test.YtkjlafpafmihaaaG90f7600ce72e
import Derived.Test.YtkjlafpafmihaaaGbea5e349a2aa
set_option linter.unusedVariables false
set_option linter.unusedSimpArgs false

namespace Go.Proofs.Ytkjlafpafmihaaa
open Go.ChangeShapes Go.WideShapes Go.ChangeAt Go.RowKit

theorem evo_s {l : Slots} {x : Operand} {v : Value} (h : ev l x = some v) : EvO l (some x) (some v) := h
theorem evo_n {l : Slots} : EvO l none none := trivial
section
variable {P : Program} {w : World} {t e : TypeId} {A : Option Addr} {n c s B : Nat} {xs : List Value} {kd ke kf : IntKind}
theorem sb_bound {i : Int} (k y : Nat) (code : BoundsCode) (hik : i = k) (hy : k ≤ y) (w : World) : (Instr.sliceBound (.int kd i) y code).run P w = .ok k w := by
  subst hik
  have h1 : (0 : Int) ≤ k ∧ (k : Int) ≤ y := by omega
  simp [Instr.sliceBound, asIntOf, Sem.run_bind, Result.andThen, h1, hy]
theorem sb_l {i : Int} (l : Nat) (hi : i = l) (h : l ≤ n) (w : World) : (Instr.sliceBounds true n c (some (.int kd i)) none none).run P w = .ok (l, n, c) w := by
  simp [Instr.sliceBounds, Sem.run_bind, Result.andThen, sb_bound l n _ hi h]
theorem add_block (a : Addr) (k : Nat) : a.block = (a.add k).block := by
  unfold Addr.add
  split <;> rfl
theorem slice_exw {lo hi mx : Option Value} {l k q : Nat} (hu : P.underlying t = some (.slice e)) (hz : (P.info? e).map (·.size) = some s) (hb : ∀ w, (Instr.sliceBounds true n c lo hi mx).run P w = .ok (l, k, q) w) (hlk : l ≤ k) (hkn : k ≤ n) (hkq : k ≤ q) :
    ∃ A', (∀ w, (Instr.sliceAt t (.slice A n c) lo hi mx).run P w = .ok (.slice A' (k - l) (q - l)) w) ∧ (∀ (w : World) (B : Nat) (xs : List Value), Rd w B s A n xs → Rd w B s A' (k - l) ((xs.drop (l * s)).take ((k - l) * s))) ∧ ∀ a', A' = some a' → ∃ a, A = some a ∧ a.block = a'.block := by
  obtain ⟨z, hq, hs⟩ : ∃ z, P.info? e = some z ∧ z.size = s := by
    cases h : P.info? e with
    | none => simp [h] at hz
    | some z => exact ⟨z, rfl, by simpa [h] using hz⟩
  refine ⟨if q = l then A else A.map (·.add (l * s)), fun w => ?_, ?_, ?_⟩
  · have h1 : (sizeOf e).run P w = .ok s w := by simp [sizeOf, typeInfo, hq, hs, Sem.run_bind, Result.andThen]
    simp [Instr.sliceAt, Instr.slice, run_underlying hu, Sem.run_bind, Result.andThen, hb, h1]
  · intro w B xs hR
    refine ⟨?_, fun hn => ?_⟩
    · rw [List.length_take, List.length_drop, hR.1, ← Nat.sub_mul]
      exact Nat.min_eq_left (Nat.mul_le_mul_right _ (by omega))
    · obtain ⟨b, off, rfl, hb, hcell⟩ := hR.2 (by omega)
      rw [if_neg (by omega)]
      refine ⟨b, off + l * s, ?_, hb, fun j u hu => ?_⟩
      · simp only [Option.map_some, Option.some.injEq]
        rw [Go.WideShapes.add_plain]
      · rw [Nat.add_assoc]
        refine hcell _ u ?_
        have hj : j < (k - l) * s := by
          have := (List.getElem?_eq_some_iff.1 hu).1
          rw [List.length_take] at this
          omega
        rw [List.getElem?_take_of_lt hj, List.getElem?_drop] at hu
        exact hu
  · intro a' h
    split at h
    · exact ⟨a', h, rfl⟩
    · cases A with
      | none => cases h
      | some a => cases h; exact ⟨a, rfl, add_block a _⟩
theorem r_eqg {op : BinOp} {xo yo : Operand} {a b : Array Value} {v : Value} (hg : P.eqGuardType P.depth t = false) (h : (binOp op t (.agg a) (.agg b)).run P w = .ok v w) : (do eqGuard op t xo yo (.agg a) (.agg b); binOp op t (.agg a) (.agg b) : Sem Value).run P w = .ok v w := by
  have h1 : (eqGuard op t xo yo (.agg a) (.agg b)).run P w = .ok () w := by
    have hp : ∀ w, (program : Sem Program).run P w = .ok P w := fun _ => rfl
    unfold eqGuard
    cases op <;> first | rfl | simp [hp, Sem.run_bind, Result.andThen, hg]
  rw [Sem.run_bind, h1]
  exact h
end
end Go.Proofs.Ytkjlafpafmihaaa

namespace Go.Proofs.Ytkjlafpafmihaaa
open Go.ChangeShapes Go.WideShapes Go.RowKit

theorem inf3 : (Try.prog.info? 3).map (·.size) = some 1 := by kernel_rfl
theorem infz3 : (Try.prog.info? 3).map (fun i => (i.zero, i.size, i.bytes)) = some (some (.int .i64 0), 1, 8) := by kernel_rfl
theorem inf22 : (Try.prog.info? 22).map (·.size) = some 1 := by kernel_rfl
theorem inf23 : (Try.prog.info? 23).map (·.size) = some 1 := by kernel_rfl
theorem inf26 : (Try.prog.info? 26).map (·.size) = some 9 := by kernel_rfl
theorem inf27 : (Try.prog.info? 27).map (·.size) = some 36 := by kernel_rfl
theorem inf29 : (Try.prog.info? 29).map (·.size) = some 41 := by kernel_rfl
theorem fa29_0 (b o : Nat) (w : World) : (Instr.fieldAt 29 (.pointer (some ⟨b, o, none⟩)) 0).run Try.prog w = .ok (.pointer (some ⟨b, o, none⟩)) w := by kernel_rfl
theorem fa29_1 (b o : Nat) (w : World) : (Instr.fieldAt 29 (.pointer (some ⟨b, o, none⟩)) 1).run Try.prog w = .ok (.pointer (some ⟨b, o + 1, none⟩)) w := by kernel_rfl
theorem fa29_2 (b o : Nat) (w : World) : (Instr.fieldAt 29 (.pointer (some ⟨b, o, none⟩)) 2).run Try.prog w = .ok (.pointer (some ⟨b, o + 2, none⟩)) w := by kernel_rfl
theorem fa29_3 (b o : Nat) (w : World) : (Instr.fieldAt 29 (.pointer (some ⟨b, o, none⟩)) 3).run Try.prog w = .ok (.pointer (some ⟨b, o + 3, none⟩)) w := by kernel_rfl
theorem fa29_4 (b o : Nat) (w : World) : (Instr.fieldAt 29 (.pointer (some ⟨b, o, none⟩)) 4).run Try.prog w = .ok (.pointer (some ⟨b, o + 4, none⟩)) w := by kernel_rfl
theorem fa29_5 (b o : Nat) (w : World) : (Instr.fieldAt 29 (.pointer (some ⟨b, o, none⟩)) 5).run Try.prog w = .ok (.pointer (some ⟨b, o + 5, none⟩)) w := by kernel_rfl
theorem inf35 : (Try.prog.info? 35).map (·.size) = some 2 := by kernel_rfl
theorem fa35_0 (b o : Nat) (w : World) : (Instr.fieldAt 35 (.pointer (some ⟨b, o, none⟩)) 0).run Try.prog w = .ok (.pointer (some ⟨b, o, none⟩)) w := by kernel_rfl
theorem fa35_1 (b o : Nat) (w : World) : (Instr.fieldAt 35 (.pointer (some ⟨b, o, none⟩)) 1).run Try.prog w = .ok (.pointer (some ⟨b, o + 1, none⟩)) w := by kernel_rfl
theorem inf37 : (Try.prog.info? 37).map (·.size) = some 6 := by kernel_rfl
theorem fa37_0 (b o : Nat) (w : World) : (Instr.fieldAt 37 (.pointer (some ⟨b, o, none⟩)) 0).run Try.prog w = .ok (.pointer (some ⟨b, o, none⟩)) w := by kernel_rfl
theorem fa37_1 (b o : Nat) (w : World) : (Instr.fieldAt 37 (.pointer (some ⟨b, o, none⟩)) 1).run Try.prog w = .ok (.pointer (some ⟨b, o + 1, none⟩)) w := by kernel_rfl
theorem fa37_2 (b o : Nat) (w : World) : (Instr.fieldAt 37 (.pointer (some ⟨b, o, none⟩)) 2).run Try.prog w = .ok (.pointer (some ⟨b, o + 2, none⟩)) w := by kernel_rfl
theorem fa37_3 (b o : Nat) (w : World) : (Instr.fieldAt 37 (.pointer (some ⟨b, o, none⟩)) 3).run Try.prog w = .ok (.pointer (some ⟨b, o + 3, none⟩)) w := by kernel_rfl
theorem fa37_4 (b o : Nat) (w : World) : (Instr.fieldAt 37 (.pointer (some ⟨b, o, none⟩)) 4).run Try.prog w = .ok (.pointer (some ⟨b, o + 4, none⟩)) w := by kernel_rfl
theorem inf93 : (Try.prog.info? 93).map (·.size) = some 4 := by kernel_rfl
theorem inf137 : (Try.prog.info? 137).map (·.size) = some 2 := by kernel_rfl
theorem infz137 : (Try.prog.info? 137).map (fun i => (i.zero, i.size, i.bytes)) = some (some (.agg #[.int .i64 0, .int .i64 0]), 2, 16) := by kernel_rfl
theorem fa137_0 (b o : Nat) (w : World) : (Instr.fieldAt 137 (.pointer (some ⟨b, o, none⟩)) 0).run Try.prog w = .ok (.pointer (some ⟨b, o, none⟩)) w := by kernel_rfl
theorem fa137_1 (b o : Nat) (w : World) : (Instr.fieldAt 137 (.pointer (some ⟨b, o, none⟩)) 1).run Try.prog w = .ok (.pointer (some ⟨b, o + 1, none⟩)) w := by kernel_rfl
theorem inf141 : (Try.prog.info? 141).map (·.size) = some 4 := by kernel_rfl
theorem infz141 : (Try.prog.info? 141).map (fun i => (i.zero, i.size, i.bytes)) = some (some (.agg #[.int .i64 0, .int .i64 0, .int .i64 0, .int .i64 0]), 4, 32) := by kernel_rfl
theorem fa141_0 (b o : Nat) (w : World) : (Instr.fieldAt 141 (.pointer (some ⟨b, o, none⟩)) 0).run Try.prog w = .ok (.pointer (some ⟨b, o, none⟩)) w := by kernel_rfl
theorem fa141_1 (b o : Nat) (w : World) : (Instr.fieldAt 141 (.pointer (some ⟨b, o, none⟩)) 1).run Try.prog w = .ok (.pointer (some ⟨b, o + 2, none⟩)) w := by kernel_rfl
theorem fa190_0 (b o : Nat) (w : World) : (Instr.fieldAt 190 (.pointer (some ⟨b, o, none⟩)) 0).run Try.prog w = .ok (.pointer (some ⟨b, o, none⟩)) w := by kernel_rfl
theorem en30 (args : Array Value) (w : World) : (callFunc 30 args).run Try.prog w = .ok (.enter 30 args) w := enters_of_ Try.func30 (by kernel_rfl) rfl args w
theorem en32 (args : Array Value) (w : World) : (callFunc 32 args).run Try.prog w = .ok (.enter 32 args) w := enters_of_ Try.func32 (by kernel_rfl) rfl args w
theorem en66 (args : Array Value) (w : World) : (callFunc 66 args).run Try.prog w = .ok (.enter 66 args) w := enters_of_ Try.func66 (by kernel_rfl) rfl args w
theorem en67 (args : Array Value) (w : World) : (callFunc 67 args).run Try.prog w = .ok (.enter 67 args) w := enters_of_ Try.func67 (by kernel_rfl) rfl args w
theorem en104 (args : Array Value) (w : World) : (callFunc 104 args).run Try.prog w = .ok (.enter 104 args) w := enters_of_ Try.func104 (by kernel_rfl) rfl args w
theorem en105 (args : Array Value) (w : World) : (callFunc 105 args).run Try.prog w = .ok (.enter 105 args) w := enters_of_ Try.func105 (by kernel_rfl) rfl args w
theorem en106 (args : Array Value) (w : World) : (callFunc 106 args).run Try.prog w = .ok (.enter 106 args) w := enters_of_ Try.func106 (by kernel_rfl) rfl args w
theorem en107 (args : Array Value) (w : World) : (callFunc 107 args).run Try.prog w = .ok (.enter 107 args) w := enters_of_ Try.func107 (by kernel_rfl) rfl args w
theorem en108 (args : Array Value) (w : World) : (callFunc 108 args).run Try.prog w = .ok (.enter 108 args) w := enters_of_ Try.func108 (by kernel_rfl) rfl args w
theorem en142 (args : Array Value) (w : World) : (callFunc 142 args).run Try.prog w = .ok (.enter 142 args) w := enters_of_ Try.func142 (by kernel_rfl) rfl args w
theorem en143 (args : Array Value) (w : World) : (callFunc 143 args).run Try.prog w = .ok (.enter 143 args) w := enters_of_ Try.func143 (by kernel_rfl) rfl args w
theorem en144 (args : Array Value) (w : World) : (callFunc 144 args).run Try.prog w = .ok (.enter 144 args) w := enters_of_ Try.func144 (by kernel_rfl) rfl args w
theorem en145 (args : Array Value) (w : World) : (callFunc 145 args).run Try.prog w = .ok (.enter 145 args) w := enters_of_ Try.func145 (by kernel_rfl) rfl args w
theorem en146 (args : Array Value) (w : World) : (callFunc 146 args).run Try.prog w = .ok (.enter 146 args) w := enters_of_ Try.func146 (by kernel_rfl) rfl args w
theorem en147 (args : Array Value) (w : World) : (callFunc 147 args).run Try.prog w = .ok (.enter 147 args) w := enters_of_ Try.func147 (by kernel_rfl) rfl args w
theorem en148 (args : Array Value) (w : World) : (callFunc 148 args).run Try.prog w = .ok (.enter 148 args) w := enters_of_ Try.func148 (by kernel_rfl) rfl args w
theorem en149 (args : Array Value) (w : World) : (callFunc 149 args).run Try.prog w = .ok (.enter 149 args) w := enters_of_ Try.func149 (by kernel_rfl) rfl args w
theorem en150 (args : Array Value) (w : World) : (callFunc 150 args).run Try.prog w = .ok (.enter 150 args) w := enters_of_ Try.func150 (by kernel_rfl) rfl args w
theorem en151 (args : Array Value) (w : World) : (callFunc 151 args).run Try.prog w = .ok (.enter 151 args) w := enters_of_ Try.func151 (by kernel_rfl) rfl args w
theorem en174 (args : Array Value) (w : World) : (callFunc 174 args).run Try.prog w = .ok (.enter 174 args) w := enters_of_ Try.func174 (by kernel_rfl) rfl args w
theorem en175 (args : Array Value) (w : World) : (callFunc 175 args).run Try.prog w = .ok (.enter 175 args) w := enters_of_ Try.func175 (by kernel_rfl) rfl args w
theorem en176 (args : Array Value) (w : World) : (callFunc 176 args).run Try.prog w = .ok (.enter 176 args) w := enters_of_ Try.func176 (by kernel_rfl) rfl args w
theorem en177 (args : Array Value) (w : World) : (callFunc 177 args).run Try.prog w = .ok (.enter 177 args) w := enters_of_ Try.func177 (by kernel_rfl) rfl args w
theorem en178 (args : Array Value) (w : World) : (callFunc 178 args).run Try.prog w = .ok (.enter 178 args) w := enters_of_ Try.func178 (by kernel_rfl) rfl args w
theorem en179 (args : Array Value) (w : World) : (callFunc 179 args).run Try.prog w = .ok (.enter 179 args) w := enters_of_ Try.func179 (by kernel_rfl) rfl args w
theorem mixed : Try.prog.follows .mixedOrders = true := by kernel_rfl
end Go.Proofs.Ytkjlafpafmihaaa

namespace Go.Proofs.Ytkjlafpafmihaaa
open Go.ChangeShapes Go.WideShapes Go.ChangeAt Go.RowKit
section
variable {P : Program} {N : Nat} {l : Slots} {o : Oper} {w w' w0 : World} {B : Nat} {fs : List Fact}
theorem e_callv {f : FuncId} {first cap us : List Value} {x : Operand} {xs : List Operand} {ts : Array TypeId} {vs : List Value} (ho : o.op = .call { callee := .value x, args := xs.toArray, argTypes := ts }) (hv : ev l x = some (.func (.func f) first.toArray cap.toArray))
    (heg : ∀ args w, (callFunc f args).run P w = .ok (.enter f args) w) (hx : Evs l xs vs) (hu : first ++ vs ++ cap = us) : Enter P N l o w f us := fun a F => by
  subst hu
  have h1 := F.evs hx
  unfold execOp
  simp only [ho, resolve, F.ev hv, Deferred.ofValue, invoke, Sem.run_bind, Sem.run_pure, Result.andThen_ok, List.map_toArray, h1]
  simp [heg]
theorem y_makeFunc {f : Fn} {xs ys : List Operand} {vs us : List Value} (ho : o.op = .makeFunc f xs.toArray ys.toArray) (hx : Evs l xs vs) (hy : Evs l ys us) : Yld P N l o w (.func f vs.toArray us.toArray) := fun a F => by
  have h1 := F.evs hx
  have h2 := F.evs hy
  unfold execOp
  simp only [ho, List.map_toArray, h1, h2]
  rfl
theorem blk_rd {b off s n : Nat} {row : Array Value} {t : TypeId} {xs : List Value} (i : Nat) (S : St B w0 w fs) (hi : fs[i]? = some (.blk b row t)) (hl : xs.length = n * s) (hx : ∀ (j : Nat) (u : Value), xs[j]? = some u → row[off + j]? = some u) : Rd w w.heap.size s (some ⟨b, off, none⟩) n xs :=
  ⟨hl, fun _ => ⟨b, off, rfl, S.lt i hi, fun j u hu => S.cl i hi (hx j u hu)⟩⟩
theorem own_some {base : Nat} {e : TypeId} {size n c : Nat} {A : Option Addr} {xs : List Value} (h : w.ownsRow base e size (.slice A n c) n xs) (hn : 0 < n) : ∃ g, A = some ⟨g, 0, none⟩ := by
  rcases h.2 with ⟨_, h0⟩ | ⟨g, cap, cur, hv, _⟩
  · omega
  · exact ⟨g, by injection hv⟩
theorem St.reown {e e' : TypeId} {s s' : Nat} {g n c n' c' : Nat} {xs xs' : List Value} (i : Nat) (S : St B w0 w fs) (hi : fs[i]? = some (.own e s (.slice (some ⟨g, 0, none⟩) n c) n xs)) (hu : Upd w g w') (ho : w'.ownsRow B e' s' (.slice (some ⟨g, 0, none⟩) n' c') n' xs') :
    St B w0 w' (fs.set i (.own e' s' (.slice (some ⟨g, 0, none⟩) n' c') n' xs')) :=
  S.turn i hi (hu.next S.low (Fact.foot_lt (S.all i _ hi) rfl).1) (Nat.le_of_eq hu.size.symm) (fun k _ hk => hu.block k (fun e => hk (by rw [e]; rfl))) ho (fun k hk => .inl hk)
theorem fm_erase {α : Type} {enc : α → List Value} {sz : Nat} (hsz : ∀ x, (enc x).length = sz) : ∀ (k : Nat) (l : List α), (l.flatMap enc).take (k * sz) ++ (l.flatMap enc).drop ((k + 1) * sz) = (l.eraseIdx k).flatMap enc
  | 0, [] => by simp
  | 0, x :: l => by rw [List.flatMap_cons, Nat.zero_mul, List.take_zero, List.nil_append, Nat.zero_add, Nat.one_mul, List.drop_left' (hsz x)]; rfl
  | k + 1, [] => by simp
  | k + 1, x :: l => by
    rw [List.eraseIdx_cons_succ, List.flatMap_cons, List.flatMap_cons, ← fm_erase hsz k l, Nat.succ_mul k, Nat.succ_mul (k + 1), Nat.add_comm _ sz, Nat.add_comm _ sz, List.take_append, List.drop_append, hsz x]
    rw [List.take_of_length_le (by rw [hsz x]; omega), List.drop_of_length_le (by rw [hsz x]; omega), Nat.add_sub_cancel_left, Nat.add_sub_cancel_left, List.nil_append, List.append_assoc, Nat.succ_mul k, Nat.add_comm sz]
end
theorem rdo_nil {B : Nat} {w0 w : World} {fs : List Fact} {s : Nat} (S : St B w0 w fs) : St B w0 w (.rdo s none 0 [] :: fs) := S.cons ⟨Rd.none_, fun a h => by cases h⟩ fun k hk => by cases hk
end Go.Proofs.Ytkjlafpafmihaaa

