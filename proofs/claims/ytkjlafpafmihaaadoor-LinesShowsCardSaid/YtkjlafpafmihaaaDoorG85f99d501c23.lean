/- Parts of proofs: lemmas on memory, on single functions and on the plain models; no condition of their own. -/
import Derived.Test.YtkjlafpafmihaaaDoorRows
import Derived.WalkKit
import Derived.ProofKit
import Derived.OpenShut
import Derived.SizedLaws
import Derived.WalkSpells
import Derived.WalkLawsBesides
import Derived.Handy
import Derived.Deep.QuietTactic
import Derived.BigQuiet
import Derived.Lib.Hide
import Derived.Maps.AppendAt
import Derived.Deep.AppendLies
import Derived.RegionTactic
import Derived.OwnWalk
import Derived.Laws.Tables
import Derived.Deep.MidRow
import Derived.StillTailTactics
import Derived.OrdersHeld
import Derived.Deep.RegionHeld3
import Derived.Laws.IdiomCopy
import Derived.ChangeKeysEq
import Derived.Laws.BitsAllLaws
import Derived.Scope
import Derived.Lib.AppendStr
import Derived.Lib.ItoaLen
import Derived.Lib.BufferRead
import Derived.Laws.IdiomStrings
import Derived.Lib.Builder
import Derived.Test.YtkjlafpafmihaaaDoorG12ec74731733
import Derived.Test.YtkjlafpafmihaaaDoorG29a9d8cef57c
import Derived.Test.YtkjlafpafmihaaaDoorG536627dfcf89
import Derived.Test.YtkjlafpafmihaaaDoorG5e893203608a
import Derived.Test.YtkjlafpafmihaaaDoorG8c1733dd40c8
import Derived.Test.YtkjlafpafmihaaaDoorGa0ccebf5b30d
import Derived.Test.YtkjlafpafmihaaaDoorGb8636b134018
import Derived.Test.YtkjlafpafmihaaaDoorGcfafce0aa8d2
import Derived.Test.YtkjlafpafmihaaaDoorGdd74061dec1e
set_option linter.unusedVariables false
set_option linter.unusedSimpArgs false

namespace Go.Proofs.YtkjlafpafmihaaaDoor
open Go.ChangeShapes Go.WideShapes Go.RowKit
section
variable {P : Program} {N : Nat} {l : Slots} {w w' w0 : World} {B : Nat} {fs fs' : List Fact} {ops : Array Oper} {o : Oper} {rest : List Oper} {Q : Exit → Act → World → Prop} {d : Nat} {v : Value} {t : TypeId} {xo yo : Operand}
/-- A string of these bytes. -/
abbrev str (l : List UInt8) : Value := .string ⟨l.toArray⟩
theorem str_add (a b : List UInt8) : ((⟨a.toArray⟩ : ByteArray) ++ ⟨b.toArray⟩) = ⟨(a ++ b).toArray⟩ := by
  apply ByteArray.ext
  simp
theorem r_sadd {a b c : List UInt8} (hc : a ++ b = c) (h : c.length ≤ 4611686018427387904) : (do eqGuard .add t xo yo (str a) (str b); binOp .add t (str a) (str b) : Sem Value).run P w = .ok (str c) w := by
  subst hc
  rw [List.length_append] at h
  have hs : ¬ (((⟨a.toArray⟩ : ByteArray).size + (⟨b.toArray⟩ : ByteArray).size : Nat) : Int) > IntKind.i64.max := by
    show ¬ ((a.toArray.size + b.toArray.size : Nat) : Int) > 9223372036854775807
    simp only [List.size_toArray]
    omega
  simp only [str, binOp, eqGuard_at_string, go_sem, Op.stringOp, if_neg hs, str_add]
  simp [eqGuard_add]
  omega
theorem r_quo10 {n : Nat} (h : n ≤ 4611686018427387904) : (do eqGuard .quo t xo yo (.int .i64 (n : Int)) (.int .i64 10); binOp .quo t (.int .i64 (n : Int)) (.int .i64 10) : Sem Value).run P w = .ok (.int .i64 ((n / 10 : Nat) : Int)) w := by
  simp [binOp, Op.intArith, go_sem]
  exact wrap64_in (by omega) (by omega)
theorem r_rem10 {n : Nat} : (do eqGuard .rem t xo yo (.int .i64 (n : Int)) (.int .i64 10); binOp .rem t (.int .i64 (n : Int)) (.int .i64 10) : Sem Value).run P w = .ok (.int .i64 ((n % 10 : Nat) : Int)) w := by
  simp [binOp, Op.intArith, go_sem]
  exact Int.tmod_eq_emod_of_nonneg (Int.natCast_nonneg _)
theorem strCells_str (b : List UInt8) : Lib.strCells ⟨b.toArray⟩ = b.map fun x => Value.int .u8 (x.toNat : Int) := by simp [Lib.strCells]
theorem r_i2u8 {s t : TypeId} {k : Nat} (hs : (P.underlying s).isSome = true) (ht : P.underlying t = some (.int .u8)) (hk : k < 256) : (convert s t (.int .i64 (k : Int))).run P w = .ok (.int .u8 ((UInt8.ofNat k).toNat : Int)) w := by
  refine r_convert hs ht ?_
  rw [UInt8.toNat_ofNat', Nat.mod_eq_of_lt (by simpa using hk)]
  show (k : Int) % 256 = _
  omega
/-- Bytes as a string. -/
theorem r_b2s {s t e : TypeId} {b : List UInt8} {A : Option Addr} {c Br : Nat} (hs : P.underlying s = some (.slice e)) (he : P.underlying e = some (.int .u8)) (ht : P.underlying t = some .string) (h : Rd w Br 1 A b.length (byteCells b)) (h0 : A = none → b = []) : (convert s t (.slice A b.length c)).run P w = .ok (str b) w := by
  cases A with
  | none =>
    have hb := h0 rfl
    subst hb
    exact Lib.run_convert_nil_bytes w s t e c hs he ht
  | some a =>
    refine run_convert_bytes_back w s t e a c b hs he ht fun j hj => ?_
    obtain ⟨b0, off, ha, hlt, hcell⟩ := h.2 (by omega)
    cases ha
    have := hcell j (.int .u8 (b[j].toNat : Int)) (by simp [byteCells, hj])
    rw [← this]
    simp only [Addr.add]
    by_cases e : j = 0
    · subst e; rfl
    · rw [if_neg e]
theorem St.ownRd {e : TypeId} {s s2 n n2 : Nat} {A2 : Option Addr} {sv : Value} {xs xs2 : List Value} (hlow : Below B w0 w') (hB : B ≤ w'.heap.size) (ho : w'.ownsRow B e s sv n xs) (hr : Rd w' B s2 A2 n2 xs2) : St B w0 w' [.own e s sv n xs, .rd s2 A2 n2 xs2] :=
  ⟨hlow, hB, fun i f h => by
    rcases i with _ | _ | i
    · simp at h; subst h; exact ho
    · simp at h; subst h; exact hr
    · simp at h, fun i j f g hij h1 h2 k hk e => by
    rcases i with _ | _ | i <;> rcases j with _ | _ | j <;> simp at h1 h2 <;> try omega
    · subst h2; simp [Fact.foot] at e
    · subst h1; simp [Fact.foot] at hk⟩
/-- A string's bytes onto a row of the call's own, beside what is only read. -/
theorem wL_appendS {x y : Operand} {t u e : TypeId} {n s2 n2 : Nat} {A2 : Option Addr} {b : List UInt8} {xs xs' xs2 : List Value} {sv : Value} (S : St B w0 w [.own e 1 sv n xs, .rd s2 A2 n2 xs2]) (hw : Wanted N ops l o true) (hd : o.dst = some d) (hN : Nat.blt d N = true)
    (ho : o.op = .call { callee := .builtin .append, args := #[x, y], argTypes := #[t, u] }) (hx : ev l x = some sv) (hy : ev l y = some (str b))
    (ht : P.underlying t = some (.slice e)) (hu : P.underlying u = some .string) (hinf : (P.info? e).map (fun i => (i.zero, i.size, i.bytes)) = some (some (.int .u8 0), 1, 1)) (h63 : n + b.length ≤ 140737488355328)
    (hxs : xs ++ byteCells b = xs') (h : ∀ A' c' w', n + b.length ≤ c' → c' ≤ maxLen → St B w0 w' [.own e 1 (.slice A' (n + b.length) c') (n + b.length) xs', .rd s2 A2 n2 xs2] → wL P N ops Q rest ((d, .slice A' (n + b.length) c') :: l) w') : wL P N ops Q (o :: rest) l w := by
  subst hxs
  obtain ⟨j0, hj0, hz, hs, hb⟩ := info_parts hinf
  have hsz : (⟨b.toArray⟩ : ByteArray).size = b.length := by show b.toArray.size = _; simp
  obtain ⟨v', w', hrun, h2, h3, h4⟩ := Lib.run_append_own_string (P := P) w B t u o.type e j0 ht hu hj0 hz hs hb sv n xs (S.own 0 rfl) ⟨b.toArray⟩ (by rw [hsz]; simp only [maxLen]; omega) (by rw [hsz]; omega) S.base
  rw [hsz, strCells_str] at h2
  obtain ⟨A', c', rfl, hc1, hc2⟩ := own_form h2
  have hrd : Rd w B s2 A2 n2 xs2 := S.all 1 _ rfl
  have hg : Below B w w' := (Below.refl B w).grown h3 S.base (fun k hk => (S.own 0 rfl).own_lt k hk)
  exact wL_to hw hd hN (d_builtin (xs := [x, y]) (vs := [sv, str b]) ho ⟨hx, hy, trivial⟩ (fun cs => by simp [builtin, hrun, Sem.run_bind, Result.andThen])) (h A' c' w' hc1 hc2 (St.ownRd (S.low.trans hg) (Nat.le_trans S.base h3.size) h2 (hrd.below hg (Nat.le_refl _))))
/-! ### strings.Builder -/
theorem St.bldRd {T e : TypeId} {b s2 n2 : Nat} {p : Value} {A2 : Option Addr} {bs xs2 : List Value} (hlow : Below B w0 w') (hB : B ≤ w'.heap.size) (h : Lib.BuilderAt T e B b p bs w') (hr : Rd w' B s2 A2 n2 xs2) : ∃ v, St B w0 w' [.blk b #[p, v] T, .own e 1 v bs.length bs, .rd s2 A2 n2 xs2] := by
  obtain ⟨hb, v, hh, ho, hne⟩ := h
  refine ⟨v, hlow, hB, fun i f h => ?_, fun i j f g hij h1 h2 k hk e => ?_⟩
  · rcases i with _ | _ | _ | i
    · simp at h; subst h; exact ⟨hb, ⟨hh⟩⟩
    · simp at h; subst h; exact ho
    · simp at h; subst h; exact hr
    · simp at h
  · rcases i with _ | _ | _ | i <;> rcases j with _ | _ | _ | j <;> simp at h1 h2 <;> try omega
    all_goals (subst h1; subst h2; simp only [Fact.foot] at hk e; first | (cases hk; done) | (cases e; done) | skip)
    · cases hk; exact hne e
    · cases e; exact hne hk
theorem St.isBld {T e : TypeId} {b : Nat} {p v : Value} {bs : List Value} (S : St B w0 w (.blk b #[p, v] T :: .own e 1 v bs.length bs :: fs)) : Lib.BuilderAt T e B b p bs w :=
  ⟨St.ge 0 S rfl, v, (S.blk 0 rfl).blk, S.own 1 rfl, fun h => S.sep 0 1 _ _ (by decide) rfl rfl b rfl h⟩
theorem St.isBldOr {T e : TypeId} {b : Nat} {p v : Value} {bs : List Value} (S : St B w0 w (.blk b #[p, v] T :: .own e 1 v bs.length bs :: fs)) (hp : p = .pointer none ∨ p = .pointer (some ⟨b, 0, none⟩)) : Lib.IsBuilder T e B b bs w := by
  rcases hp with rfl | rfl
  · exact .inl (St.isBld S)
  · exact .inr (St.isBld S)
theorem str_size (t : List UInt8) : (⟨t.toArray⟩ : ByteArray).size = t.length := by show t.toArray.size = _; simp
end
end Go.Proofs.YtkjlafpafmihaaaDoor

