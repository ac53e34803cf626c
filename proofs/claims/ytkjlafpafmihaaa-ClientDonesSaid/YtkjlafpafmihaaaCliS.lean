/- Contract: berthshiftlaw.sameClient. -/
import Derived.Test.YtkjlafpafmihaaaSame
import Derived.Test.YtkjlafpafmihaaaIn
namespace Go.Proofs.Ytkjlafpafmihaaa
open Go.ChangeShapes Go.WideShapes Go.RowKit

/-- Four numbers. -/
structure Four4 where
  a : Int
  b : Int
  c : Int
  d : Int
  deriving DecidableEq
def Four4.cells (x : Four4) : List Value := [.int .i64 x.a, .int .i64 x.b, .int .i64 x.c, .int .i64 x.d]
theorem Four4.cellsEq_ (x y : Four4) : cellsEq x.cells y.cells = decide (x = y) := by
  obtain ⟨a1, a2, a3, a4⟩ := x
  obtain ⟨b1, b2, b3, b4⟩ := y
  simp only [Four4.cells, cellsEq, cellEq, Four4.mk.injEq, Bool.and_true]
  rw [Bool.eq_iff_iff]
  simp
def fourSh : List Sh := [.at_ (.int .i64), .at_ (.int .i64), .at_ (.int .i64), .at_ (.int .i64)]
theorem flat_four : flat Try.prog 30 58 = some fourSh := by kernel_rfl
theorem eqOk_four : eqOk Try.prog 30 58 = true := by kernel_rfl
theorem mkV_four (xs : List Value) : mkV Try.prog 58 xs = .agg xs.toArray := by
  unfold mkV
  rw [Try.underlying58]
theorem Four4.kd (x : Four4) : All2 Kd x.cells fourSh := ⟨⟨_, rfl⟩, ⟨_, rfl⟩, ⟨_, rfl⟩, ⟨_, rfl⟩, trivial⟩
theorem run_eql_four (x y : Four4) (w : World) : (binOp .eql 58 (.agg #[.int .i64 x.a, .int .i64 x.b, .int .i64 x.c, .int .i64 x.d]) (.agg #[.int .i64 y.a, .int .i64 y.b, .int .i64 y.c, .int .i64 y.d])).run Try.prog w = .ok (.bool (decide (x = y))) w := by
  rw [← Four4.cellsEq_]
  exact run_eql_cells (P := Try.prog) w flat_four eqOk_four mkV_four x.kd y.kd

def BPost (w : World) (b : Bool) (e : Ending) (w' : World) : Prop := e = .returned (.bool b) ∧ Below w.heap.size w w'

set_option maxRecDepth 100000 in
set_option maxHeartbeats 2000000 in
theorem sameClient_calls (A A' : Option Addr) (n c n' c' : Nat) (l l' : List Ev) (p p' t t' : Int) (x y : Four4) (w : World) (h : Rd w w.heap.size 6 A n (evCells l)) (h' : Rd w w.heap.size 6 A' n' (evCells l')) (hm : n ≤ maxLen) (hm' : n' ≤ maxLen) :
    Calls Try.prog 46 #[.agg #[.int .i64 p, .int .i64 t, .slice A n c, .int .i64 x.a, .int .i64 x.b, .int .i64 x.c, .int .i64 x.d], .agg #[.int .i64 p', .int .i64 t', .slice A' n' c', .int .i64 y.a, .int .i64 y.b, .int .i64 y.c, .int .i64 y.d]] w
      (BPost w (p == p' && t == t' && decide (x = y) && decide (l = l'))) := by
  have H := Lib.hid h
  have H' := Lib.hid h'
  have hq := run_eql_four x y
  clear h h'
  cases hp : (p == p')
  · simp only [Bool.false_and]
    go_enter Try.func46, Try.ntmps46
    go_wp2_with fail
    go_ret
    exact ⟨rfl, by go_grown⟩
  · cases ht : (t == t')
    · simp only [Bool.false_and, Bool.true_and]
      go_enter Try.func46, Try.ntmps46
      go_wp2_with fail
      go_ret
      exact ⟨rfl, by go_grown⟩
    · generalize decide (x = y) = bx at hq
      obtain ⟨x0, x1, x2, x3⟩ := x
      obtain ⟨y0, y1, y2, y3⟩ := y
      simp only at hq
      cases bx
      · simp only [Bool.false_and, Bool.true_and]
        go_enter Try.func46, Try.ntmps46
        go_wp2_with fail
        go_ret
        exact ⟨rfl, by go_grown⟩
      · simp only [Bool.true_and]
        go_enter Try.func46, Try.ntmps46
        go_wp2_with fail
        refine (sameEvents_calls A A' n c n' c' l l' _ (by exact H.out.on (by go_grown)) (by exact H'.out.on (by go_grown)) hm hm').mono ?_
        rintro e w' ⟨rfl, q, rfl⟩
        go_wp2_with fail
        go_ret
        exact ⟨rfl, (((Below.refl _ w).alloc (Nat.le_refl _) _).alloc (by simp) _).trans ⟨rfl, rfl, rfl, Nat.le_refl _, fun _ _ => rfl⟩⟩

end Go.Proofs.Ytkjlafpafmihaaa
