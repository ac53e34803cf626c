/- Parts of proofs: lemmas on memory, on single functions and on the plain models; no condition of their own. -/
import Derived.Test.YtkjlafpafmihaaaDoorRows
import Derived.WalkKit
import Derived.ProofKit
import Derived.OpenShut
import Derived.SizedLaws
import Derived.WalkSpells
import Derived.WalkLawsBesides
import Derived.Handy
import Derived.Deep.QuietTactic
import Derived.BigQuiet
import Derived.Lib.Hide
import Derived.Maps.AppendAt
import Derived.Deep.AppendLies
import Derived.RegionTactic
import Derived.OwnWalk
import Derived.Laws.Tables
import Derived.Deep.MidRow
import Derived.StillTailTactics
import Derived.OrdersHeld
import Derived.Deep.RegionHeld3
import Derived.Laws.IdiomCopy
import Derived.ChangeKeysEq
import Derived.Laws.BitsAllLaws
import Derived.Scope
import Derived.Lib.AppendStr
import Derived.Lib.ItoaLen
import Derived.Lib.BufferRead
import Derived.Laws.IdiomStrings
import Derived.Lib.Builder
import Derived.Laws.Strings2
import Derived.Laws.Strings3
import Derived.Laws.Slices
import Derived.Test.YtkjlafpafmihaaaDoorG173045c9580a
import Derived.Test.YtkjlafpafmihaaaDoorG3606cc3ac865
import Derived.Test.YtkjlafpafmihaaaDoorGa487125d06f9
import Derived.Test.YtkjlafpafmihaaaDoorGa6cfea583cdc
import Derived.Test.YtkjlafpafmihaaaDoorGab8ecdf11465
import Derived.Test.YtkjlafpafmihaaaDoorGd3cfdc1357eb
import Derived.Test.YtkjlafpafmihaaaDoorGedcf6e6df767
import Derived.Test.YtkjlafpafmihaaaDoorGfe753c0b6274
set_option linter.unusedVariables false
set_option linter.unusedSimpArgs false

namespace Go.Proofs.YtkjlafpafmihaaaDoor
open Go.ChangeShapes Go.WideShapes Go.RowKit
section
variable {P : Program} {w : World} {t : TypeId} {xo yo : Operand}
theorem r_slen {b : List UInt8} {ts : Array TypeId} {ty : TypeId} {cs : Array Bool} (ht : ts = #[t]) (hu : P.underlying t = some .string) : (builtin .len ts ty cs #[str b]).run P w = .ok (.value (.int .i64 ((b.length : Nat) : Int))) w := by
  subst ht
  have h := run_len_string (P := P) w t ty ⟨b.toArray⟩ hu
  simp [builtin, str, h, Sem.run_bind, Result.andThen, goInt, str_size]
theorem r_sidx {b : List UInt8} {i : Nat} {c : UInt8} (hu : P.underlying t = some .string) (h : b[i]? = some c) : (Instr.index t (str b) (.int .i64 ((i : Nat) : Int))).run P w = .ok (.int .u8 ((c.toNat : Nat) : Int)) w := by
  obtain ⟨hi, rfl⟩ := List.getElem?_eq_some_iff.1 h
  have h2 := run_index_string (P := P) w t ⟨b.toArray⟩ .i64 ((i : Nat) : Int) hu
  rw [str, h2, dif_pos ⟨by omega, by rw [str_size]; omega⟩]
  rfl
theorem r_ssl {b c : List UInt8} {i j : Nat} (hu : P.underlying t = some .string) (h1 : i ≤ j) (h2 : j ≤ b.length) (hc : (b.drop i).take (j - i) = c) :
    (Instr.sliceAt t (str b) (some (.int .i64 ((i : Nat) : Int))) (some (.int .i64 ((j : Nat) : Int))) none).run P w = .ok (str c) w := by
  subst hc
  rw [run_sliceAt_string (P := P) (h := hu), str, run_slice_string (P := P) w t ⟨b.toArray⟩ .i64 .i64 _ _ hu (by omega) (by omega) (by rw [str_size]; omega)]
  simp only [Int.toNat_natCast, ByteArray.extract_mk]
theorem r_ssl_to {b c : List UInt8} {j : Nat} (hu : P.underlying t = some .string) (h2 : j ≤ b.length) (hc : b.take j = c) :
    (Instr.sliceAt t (str b) none (some (.int .i64 ((j : Nat) : Int))) none).run P w = .ok (str c) w := by
  subst hc
  rw [run_sliceAt_string (P := P) (h := hu), str, run_slice_string_to_if (P := P) w t ⟨b.toArray⟩ .i64 _ hu, if_pos ⟨by omega, by rw [str_size]; omega⟩]
  simp only [Int.toNat_natCast, ByteArray.extract_mk, List.drop_zero, Nat.sub_zero]
theorem r_ssl_from {b c : List UInt8} {i : Nat} (hu : P.underlying t = some .string) (h2 : i ≤ b.length) (hc : b.drop i = c) :
    (Instr.sliceAt t (str b) (some (.int .i64 ((i : Nat) : Int))) none none).run P w = .ok (str c) w := by
  subst hc
  rw [run_sliceAt_string (P := P) (h := hu), str, run_slice_string_from_if (P := P) w t ⟨b.toArray⟩ .i64 _ hu, if_pos ⟨by omega, by rw [str_size]; omega⟩]
  simp only [Int.toNat_natCast, ByteArray.extract_mk, str_size]
  rw [List.take_of_length_le (by rw [List.length_drop]; omega)]
theorem r_sneqT {a b : List UInt8} (h : ¬ a = b) : (do eqGuard .neq t xo yo (str a) (str b); binOp .neq t (str a) (str b) : Sem Value).run P w = .ok (.bool true) w := by
  simp [str, binOp, eqGuard_at_string, go_sem, Op.stringOp, h]
theorem r_sneqF {a b : List UInt8} (h : a = b) : (do eqGuard .neq t xo yo (str a) (str b); binOp .neq t (str a) (str b) : Sem Value).run P w = .ok (.bool false) w := by
  simp [str, binOp, eqGuard_at_string, go_sem, Op.stringOp, h]
theorem r_seqT {a b : List UInt8} (h : a = b) : (do eqGuard .eql t xo yo (str a) (str b); binOp .eql t (str a) (str b) : Sem Value).run P w = .ok (.bool true) w := by
  simp [str, binOp, eqGuard_at_string, go_sem, Op.stringOp, h]
theorem r_seqF {a b : List UInt8} (h : ¬ a = b) : (do eqGuard .eql t xo yo (str a) (str b); binOp .eql t (str a) (str b) : Sem Value).run P w = .ok (.bool false) w := by
  simp [str, binOp, eqGuard_at_string, go_sem, Op.stringOp, h]
theorem r_usub {x : Int} (h1 : 48 ≤ x) (h2 : x ≤ 255) : (do eqGuard .sub t xo yo (.int .u8 x) (.int .u8 48); binOp .sub t (.int .u8 x) (.int .u8 48) : Sem Value).run P w = .ok (.int .u8 (x - 48)) w := by
  have e : IntKind.u8.wrap (x - 48) = x - 48 := by
    show (x - 48) % 256 = _
    omega
  simp [binOp, Op.intArith, eqGuard_sub, e]
theorem r_u2i {s t : TypeId} {x : Int} (hs : (P.underlying s).isSome = true) (ht : P.underlying t = some (.int .i64)) (h0 : 0 ≤ x) (h1 : x ≤ 255) : (convert s t (.int .u8 x)).run P w = .ok (.int .i64 x) w :=
  r_convert hs ht (wrap64_in (by omega) (by omega))
theorem str_eq {a : List UInt8} {s : ByteArray} (h : s.data.toList = a) : Value.string s = str a := by
  subst h
  simp [str]
end
end Go.Proofs.YtkjlafpafmihaaaDoor

