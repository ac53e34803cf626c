/- Parts of proofs: lemmas on memory, on single functions and on the plain models; no condition of their own. -/
import Derived.Test.YtkjlafpafmihaaaRows
import Derived.WalkKit
import Derived.ProofKit
import Derived.OpenShut
import Derived.SizedLaws
import Derived.WalkSpells
import Derived.WalkLawsBesides
import Derived.Handy
import Derived.Deep.QuietTactic
import Derived.BigQuiet
import Derived.Lib.Hide
import Derived.JoinedCond
import Derived.Deep.CondSized
import Derived.Test.YtkjlafpafmihaaaG5a4470397ed8
set_option linter.unusedVariables false
set_option linter.unusedSimpArgs false

namespace Go.Proofs.Ytkjlafpafmihaaa
open Go.ChangeShapes Go.WideShapes Go.ChangeAt Go.RowKit

theorem bulk_pos {H : Type} (d : DataW H) : 1 ≤ Rows.uptoBulk d := by
  cases d with
  | lit l => cases l <;> simp [Rows.uptoBulk]
  | _ => simp [Rows.uptoBulk]
theorem bulk_length {H : Type} : ∀ ds : List (DataW H), ds.length ≤ Rows.uptoBulkAll ds
  | [] => by simp
  | d :: r => by
    have := bulk_length r
    have := bulk_pos d
    simp only [List.length_cons, Rows.uptoBulkAll]
    omega

section
variable {H : Type} {enc : TypeId × Value → H} {P : Program}
theorem slice_small {W : World} {t e : TypeId} {vs : List Value} {ds : List (DataW H)} {p : List MemPlace} (hu : P.underlying t = some (.slice e)) (hA : DataW.TrodAll enc P W 0 (fun _ => true) true [t] vs ds p)
    {m : Nat} (hk : Rows.uptoBulkAll ds ≤ m) (A : Option Addr) (n c : Nat) (hv : vs = [.slice A n c]) : n ≤ m := by
  obtain ⟨v, vs', d, ds', p', q', rfl, rfl, rfl, h0, h1⟩ := trodAll_cons hA
  obtain ⟨fuel, ht⟩ := h0
  simp only [List.cons.injEq] at hv
  obtain ⟨rfl, _⟩ := hv
  rcases DataW.trod_slice hu ht with ⟨e1, _⟩ | ⟨a, len, cap, elems, rest, mm, _, e1, e2, _, hl, hm, hlen, hel, hsp, _⟩
  · simp [Value.cells] at e1
    omega
  · simp [Value.cells] at e1
    simp only [Prod.mk.injEq] at e2
    obtain ⟨rfl, _⟩ := e2
    have h2 := bulk_length (elems.map (·.1))
    simp only [Rows.uptoBulkAll, Rows.uptoBulk, List.length_map] at hk h2
    omega

theorem law_contract_at {f : FuncId} {fn : Func} {s : ChangeSpec} {bt : TypeId} (hts : typesOk P fn.params.toList = true) (hvars : s.vars = []) (hres : fn.resultTypes = #[bt]) (hbt : P.underlying bt = some .bool)
    (hs : ∀ ds : List (DataW H), ds.length = fn.params.toList.length → s.fn H ds = { results := [.lit (.bool true)], args := ds })
    (W : World) (base : Nat) (args : Array Value) (ds gs : List (DataW H)) (before : List MemPlace)
    (walk : ∀ p, gs = [] → DataW.TrodAll enc P W 0 (fun _ => true) true fn.params.toList args.toList ds p → All2 (ArgOk P W) args.toList fn.params.toList → Calls P f args W fun e W' => e = .returned (.bool true) ∧ Below W.heap.size W W')
    (hval : ∀ (j : Nat) t v, fn.params[j]? = some t → args[j]? = some v → Value.okWide P W .any base t v)
    (hW : DataW.Whole enc P fn.params.toList s.vars false W args.toList ds gs before)
    (hz : (DataW.weightsEach P (fn.params.toList ++ s.plain.varTypes P) (ds ++ gs)).all (· ≤ reachBytes) = true) :
    Calls P f args W fun e W' => ∃ v, e = .returned v ∧ s.post enc P fn false true false false W args v W' := by
  simp only [typesOk, Bool.and_eq_true, List.all_eq_true, decide_eq_true_eq] at hts
  obtain ⟨hl, hts⟩ := hts
  have hW' := hW
  have hlt := hW.lt
  obtain ⟨p, q, hA, hV, rfl, _, _⟩ := hW
  rw [hvars] at hV
  have hg : gs = [] ∧ q = [] := by
    cases gs with
    | nil => exact ⟨rfl, hV⟩
    | cons g gs => exact hV.elim
  obtain ⟨rfl, rfl⟩ := hg
  have hvt : s.plain.varTypes P = [] := by unfold DataSpec.varTypes ChangeSpec.plain; simp [hvars]
  rw [hvt, List.append_nil, List.append_nil] at hz
  have hzz : ∀ b ∈ DataW.weightsEach P fn.params.toList ds, b ≤ reachBytes := fun b hb => by simpa using List.all_eq_true.1 hz b hb
  have hargs := args_ok hA (fun j t v h1 h2 => hval j t v (by simpa using h1) (by simpa using h2)) (fun t ht => (hts t ht).1.1) hzz (fun x hx => hlt x (List.mem_append.2 (.inl hx)))
  have hlen : ds.length = fn.params.toList.length := by
    have : ∀ {ts : List TypeId} {vs : List Value} {ds : List (DataW H)} {ps : List MemPlace}, DataW.TrodAll enc P W 0 (fun _ => true) true ts vs ds ps → ds.length = ts.length := by
      intro ts
      induction ts with
      | nil => intro vs ds ps h; obtain ⟨_, rfl, _⟩ := trodAll_nil h; rfl
      | cons t ts ih =>
        intro vs ds ps h
        obtain ⟨v, vs', d, ds', p, q, rfl, rfl, rfl, h0, h1⟩ := trodAll_cons h
        simp [ih h1]
    exact this hA
  refine (walk p rfl hA hargs).mono fun e W' ⟨he, hb⟩ => ?_
  have hsd := hs (ds ++ []) (by simpa using hlen)
  refine ⟨_, he, ds, [], p ++ [], [], p, [], hW', ?_, ?_, ?_, hb.frame _, fun h => by cases h⟩
  · rw [hsd, hres]
    exact trodAll_mk1 (shut_bool hbt true)
  · rw [hsd]
    simp only [List.append_nil]
    exact trodAll_below hl hb hA (fun t ht => ⟨(hts t ht).1.2, (hts t ht).2⟩) (fun x hx => hlt x (List.mem_append.2 (.inl hx)))
  · rw [hsd, hvars]
    simp [DataW.TrodVars]
end
end Go.Proofs.Ytkjlafpafmihaaa

