/- Contracts: ref.TapeMay, ref.Octets, ref.TapeSynced, ref.TapeCrashed, berthshiftlaw.sameTape. -/
import Derived.Test.YtkjlafpafmihaaaTapeB
import Derived.Deep.RegionHeld3
namespace Go.Proofs.Ytkjlafpafmihaaa
open Go.ChangeShapes Go.WideShapes Go.RowKit

/-- A bool, and nothing below the old heap's end turned. -/
def BoolPost (w : World) (b : Bool) (e : Ending) (w' : World) : Prop := e = .returned (.bool b) ∧ Below w.heap.size w w'

set_option maxHeartbeats 800000 in
theorem TapeMay_calls (A : Option Addr) (n c : Nat) (l : List UInt8) (s : Int) (w : World) (hl : l.length = n) :
    Calls Try.prog 138 #[.agg #[.slice A n c, .int .i64 s]] w (BoolPost w (tapeMay l s)) := by
  subst hl
  have hb : tapeMay l s = (decide ((l.length : Int) ≤ 100000) && inR s 0 l.length) := by
    unfold tapeMay inR
    rw [Bool.eq_iff_iff]
    simp
    omega
  rw [hb]
  clear hb
  by_cases h1 : l.length ≤ 100000
  · have d1 : decide ((l.length : Int) ≤ 100000) = true := by simp; omega
    rw [d1, Bool.true_and]
    go_enter Try.func138, Try.ntmps138
    go_wp2_with (go_at_call 107; refine (In_calls _ _ _ _).mono ?_; rintro e w' ⟨rfl, rfl⟩)
    go_ret
    exact ⟨rfl, by go_grown⟩
  · have d1 : decide ((l.length : Int) ≤ 100000) = false := by simp; omega
    rw [d1, Bool.false_and]
    go_enter Try.func138, Try.ntmps138
    go_wp2_with (go_at_call 107; refine (In_calls _ _ _ _).mono ?_; rintro e w' ⟨rfl, rfl⟩)
    go_ret
    exact ⟨rfl, by go_grown⟩

theorem byte_new (w : World) (x : UInt8) (t : TypeId) : Rd (w.alloc (.cells #[.int .u8 x.toNat] t)) (w.heap.size + 1) 1 (some ⟨w.heap.size, 0, none⟩) 1 (byteCells [x]) :=
  Rd.new_ w t (byteCells [x]) 1 1 (by simp [byteCells])

theorem take_snoc' {α : Type} {l : List α} {k : Nat} {e : α} (h : l[k]? = some e) : l.take k ++ [e] = l.take (k + 1) := by
  rw [List.take_add_one, h]
  rfl

theorem Rd.byte_at {w : World} {B n k : Nat} {A : Option Addr} {l : List UInt8} (h : Rd w B 1 A n (byteCells l)) (hk : k < n) : ∃ b off x, A = some ⟨b, off, none⟩ ∧ b < B ∧ l[k]? = some x ∧ w.cell? ⟨b, off + k, none⟩ = some (.int .u8 x.toNat) := by
  obtain ⟨b, off, u, e, hb, hx, hc⟩ := h.at_ hk
  simp only [byteCells, List.getElem?_map, Option.map_eq_some_iff] at hx
  obtain ⟨x, hx, rfl⟩ := hx
  exact ⟨b, off, x, e, hb, hx, hc⟩

set_option maxHeartbeats 800000 in
theorem Octets_calls (A : Option Addr) (n c m : Nat) (l : List UInt8) (w : World) (h : Rd w w.heap.size 1 A n (byteCells l)) (hm : m ≤ n) (hn : n ≤ 100000) :
    Calls Try.prog 140 #[.slice A n c, .int .i64 m] w (OwnPost w 5 1 m (byteCells (l.take m))) := by
  obtain ⟨i0, hi0, hz0, hz1, hz2⟩ := info_parts u8_info
  have HL := Lib.hid h.bytes_len
  have H := Lib.hid h
  clear h
  go_enter Try.func140, Try.ntmps140
  go_wp2
  go_loopw [5, 6] (fun v i wr => ∃ k : Nat, k ≤ m ∧ i = .int .i64 k ∧ Below w.heap.size w wr ∧ wr.ownsRow w.heap.size 5 1 v k (byteCells (l.take k))) (fun _ i _ => m - (intOf i).toNat)
  case atStart => exact ⟨0, Nat.zero_le _, rfl, Below.refl _ _, ownsRow_nil_ _ _ _ _⟩
  case round =>
    obtain ⟨k, hk, rfl, hB, hown⟩ := hrel
    by_cases hlt : k < m
    · obtain ⟨b, off, x, rfl, hb, he, c0⟩ := (H.out.below hB (Nat.le_refl _)).byte_at (show k < n by omega)
      have hkn : k < n := by omega
      have hs := hB.size
      have HE := Lib.hid he
      have HB := Lib.hid hB
      have HO := Lib.hid hown
      clear he hB hown
      have HN := Lib.hid (byte_new wr x 5)
      go_wp2_with (at_builtin; refine wpList_append_any _ rfl (.tmp 12) (.tmp 17) _ rfl w.heap.size 5 i0 _ 1 1 Try.underlying52 hi0 hz0 hz1 hz2 rfl (by omega) _ k (byteCells (l.take k)) rfl (HO.out.alloc _) (wr.heap.size + 1) (some ⟨wr.heap.size, 0, none⟩) 1 1 (byteCells [x]) rfl HN.out (byteCells_one _) (by simp only [maxLen]; omega) (by omega) (by simp; omega) ?_; intro v1 w1 hown1 hg1 hat1)
      have hB1 : Below w.heap.size w w1 := (HB.out.alloc hs _).grown hg1 (by simp; omega) (HO.out.own_lt ·)
      rw [← byteCells_append, take_snoc' HE.out] at hown1
      have HB1 := Lib.hid hB1
      have HO1 := Lib.hid hown1
      clear hB1 hown1 hg1 hat1
      go_wp2
      go_roundw
      case rel => exact ⟨k + 1, by omega, by go_num, HB1.out, HO1.out⟩
      case measure => simp [intOf]; omega
    · obtain rfl : k = m := by omega
      have HB := Lib.hid hB
      have HO := Lib.hid hown
      clear hB hown
      go_wp2
      go_ret
      exact OwnPost.of HB.out HO.out

set_option maxRecDepth 100000 in
set_option maxHeartbeats 2000000 in
theorem sameTape_calls (A A' : Option Addr) (n c n' c' : Nat) (l l' : List UInt8) (s s' : Int) (w : World) (h : Rd w w.heap.size 1 A n (byteCells l)) (h' : Rd w w.heap.size 1 A' n' (byteCells l')) :
    Calls Try.prog 60 #[.agg #[.slice A n c, .int .i64 s], .agg #[.slice A' n' c', .int .i64 s']] w (BoolPost w (s == s' && l == l')) := by
  have H := Lib.hid h
  have H' := Lib.hid h'
  clear h h'
  cases hs : (s == s')
  · simp only [Bool.false_and]
    go_enter Try.func60, Try.ntmps60
    go_wp2_with fail
    go_ret
    exact ⟨rfl, by go_grown⟩
  · simp only [Bool.true_and]
    go_enter Try.func60, Try.ntmps60
    go_wp2_with fail
    refine (sameBytes_calls A A' n n' c c' l l' _ (by exact H.out.on (by go_grown)) (by exact H'.out.on (by go_grown))).mono ?_
    rintro e w' ⟨rfl, rfl⟩
    go_wp2_with fail
    go_ret
    exact ⟨rfl, by go_grown⟩
theorem flat_tape : flat Try.prog 30 80 = some [.sl 1 [.int .u8], .at_ (.int .i64)] := by kernel_rfl
set_option maxRecDepth 100000 in
theorem arg_tape {W : World} {v : Value} (h : ArgOk Try.prog W v 80) : ∃ A n c l s, v = .agg #[.slice A n c, .int .i64 s] ∧ Rd W W.heap.size 1 A n (byteCells l) ∧ n ≤ c ∧ n ≤ reachBytes := by
  obtain ⟨⟨base, hk⟩, l, hl, ha⟩ := h
  rw [flat_tape] at hl
  cases hl
  obtain ⟨cs, rfl, _⟩ := okWide_struct Try.underlying80 hk
  obtain ⟨a1, l1, e, h1, h3⟩ := All2.cons_ ha
  obtain ⟨a2, l2, rfl, ⟨m2, rfl, _⟩, h4⟩ := All2.cons_ h3
  have h5 := All2.nil_ h4
  subst h5
  obtain ⟨A, n, c, l, rfl, hr, hn, _, hb, _⟩ := open_bytes h1
  refine ⟨A, n, c, l, m2, ?_, hr, hn, by omega⟩
  simp only [Value.cells] at e
  congr 1
  exact Array.toList_inj.1 e
end Go.Proofs.Ytkjlafpafmihaaa
