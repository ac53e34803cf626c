/- 'berthshiftlaw.Names' returns true: the error numbers, kinds and limits of package api are the document's. No condition: it has no argument. -/
import Derived.Test.YtefkifgonadiiaaFrame
namespace Go.Proofs.Ytefkifgonadiiaa
open Go.RowKit

def kindsL : List Int := [1, 2, 3, 4, 1, 2, 3, 4, 5, 6, 7, 0, 1, 2, 3, 4, 1, 2, 3, 4, 5, 6, 7, 8, 9, 10]
def limitsL : List Int := [5, 4, 4, 1000000, 1073741824, 1048576, 500, 100000, 2000, 8, 3, 4, 100000, 4000000, 2147483647, 1073741824, 1048576]
def rowOf (l : List Int) : Array Value := (l.map (Value.int .i64)).toArray

structure NamesW (w wr : World) : Prop where
  below : Below w.heap.size w wr
  k1 : wr.heap[w.heap.size + 1]? = some (.cells (rowOf kindsL) 3 (0, 0))
  k2 : wr.heap[w.heap.size + 1 + 1]? = some (.cells (rowOf kindsL) 3 (0, 0))
  l1 : wr.heap[w.heap.size + 1 + 1 + 1]? = some (.cells (rowOf limitsL) 3 (0, 0))
  l2 : wr.heap[w.heap.size + 1 + 1 + 1 + 1]? = some (.cells (rowOf limitsL) 3 (0, 0))

theorem NamesW.drewN {w wr : World} (h : NamesW w wr) (q : Nat) : NamesW w (wr.drewN q) :=
  ⟨⟨h.below.os, h.below.tape, h.below.output, h.below.size, h.below.block⟩, h.k1, h.k2, h.l1, h.l2⟩

theorem NamesW.mk_ (w : World) (o : Obj) : NamesW w (((((w.alloc o).alloc (.cells (rowOf kindsL) 3)).alloc (.cells (rowOf kindsL) 3)).alloc (.cells (rowOf limitsL) 3)).alloc (.cells (rowOf limitsL) 3)) := by
  have hB : Below w.heap.size w (((((w.alloc o).alloc (.cells (rowOf kindsL) 3)).alloc (.cells (rowOf kindsL) 3)).alloc (.cells (rowOf limitsL) 3)).alloc (.cells (rowOf limitsL) 3)) := by go_grown
  refine ⟨hB, ?_, ?_, ?_, ?_⟩ <;>
    (show (((((w.heap.push _).push _).push _).push _).push _)[_]? = _
     simp only [Array.getElem?_push, Array.size_push]
     repeat (first | rw [if_pos trivial] | rw [if_neg (by omega)])
     try simp)

theorem NamesW.cell {wr : World} {b : Nat} {l : List Int} (h : wr.heap[b]? = some (.cells (rowOf l) 3 (0, 0))) {k : Nat} (hk : k < l.length) : wr.cell? ⟨b, k, none⟩ = some (.int .i64 (l.getD k 0)) := by
  rw [cell_of_row wr b k _ 3 (0, 0) h]
  simp [rowOf, hk]

set_option maxRecDepth 100000 in
set_option maxHeartbeats 4000000 in
theorem names_calls (w : World) : Calls Try.prog 3 #[] w fun e w' => e = .returned (.bool true) ∧ Below w.heap.size w w' := by
  go_enter Try.func3, Try.ntmps3
  go_wp2
  go_rounds 17
  go_loopw [7] (fun i wr => ∃ k : Nat, k ≤ 26 ∧ i = .int .i64 k ∧ NamesW w wr) (fun i _ => 26 - (intOf i).toNat)
  case atStart => exact ⟨0, by omega, rfl, NamesW.mk_ w _⟩
  case round =>
    obtain ⟨k, hk, rfl, hN⟩ := hrel
    have HN := Lib.hid hN
    by_cases hlt : k < 26
    · have h1 := NamesW.cell hN.k1 (k := k) hlt
      have h2 := NamesW.cell hN.k2 (k := k) hlt
      clear hN
      generalize kindsL.getD k 0 = v at h1 h2
      go_wp2
      go_quiet (fail)
      go_wp2
      go_roundw
      case rel => exact ⟨k + 1, by omega, by go_num, HN.out.drewN _⟩
      case measure => simp [intOf]; omega
    · have hk26 : k = 26 := by omega
      subst hk26
      clear hN
      go_wp2
      go_loopw [8] (fun i wr => ∃ k : Nat, k ≤ 17 ∧ i = .int .i64 k ∧ NamesW w wr) (fun i _ => 17 - (intOf i).toNat)
      case atStart => exact ⟨0, by omega, rfl, HN.out⟩
      case round =>
        clear HN
        obtain ⟨k, hk, rfl, hN⟩ := hrel
        have HN := Lib.hid hN
        by_cases hlt : k < 17
        · have h1 := NamesW.cell hN.l1 (k := k) hlt
          have h2 := NamesW.cell hN.l2 (k := k) hlt
          clear hN
          generalize limitsL.getD k 0 = v at h1 h2
          go_wp2
          go_quiet (fail)
          go_wp2
          go_roundw
          case rel => exact ⟨k + 1, by omega, by go_num, HN.out.drewN _⟩
          case measure => simp [intOf]; omega
        · have hk26 : k = 17 := by omega
          subst hk26
          clear hN
          go_wp2
          go_ret
          exact ⟨rfl, HN.out.below⟩

theorem names_walk (W : World) (args : Array Value) (h : All2 (ArgOk Try.prog W) args.toList Try.f3.params.toList) :
    Calls Try.prog 3 args W fun e W' => e = .returned (.bool true) ∧ Below W.heap.size W W' := by
  rw [Try.params3] at h
  have h0 := h.nil_
  obtain rfl : args = #[] := by cases args; simp_all
  exact names_calls W
end Go.Proofs.Ytefkifgonadiiaa
