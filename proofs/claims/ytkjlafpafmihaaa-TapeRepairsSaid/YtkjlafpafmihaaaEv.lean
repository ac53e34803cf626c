/- Events as data: six cells; '==' on them. -/
import Derived.Test.YtkjlafpafmihaaaEq
namespace Go.Proofs.Ytkjlafpafmihaaa
open Go.ChangeShapes Go.WideShapes Go.RowKit

/-- An event. -/
structure Ev where
  kind : Int
  producer : Int
  id : Int
  body : Int
  hepoch : Int
  hno : Int
  deriving DecidableEq

def Ev.cells (e : Ev) : List Value := [.int .i64 e.kind, .int .i64 e.producer, .int .i64 e.id, .int .i64 e.body, .int .i64 e.hepoch, .int .i64 e.hno]
theorem Ev.cellsEq_ (a b : Ev) : cellsEq a.cells b.cells = decide (a = b) := by
  obtain ⟨a1, a2, a3, a4, a5, a6⟩ := a
  obtain ⟨b1, b2, b3, b4, b5, b6⟩ := b
  simp only [Ev.cells, cellsEq, cellEq, Ev.mk.injEq, Bool.and_true]
  rw [Bool.eq_iff_iff]
  simp

def evSh : List Sh := [.at_ (.int .i64), .at_ (.int .i64), .at_ (.int .i64), .at_ (.int .i64), .at_ (.int .i64), .at_ (.int .i64)]
theorem flat_ev : flat Try.prog 30 37 = some evSh := by kernel_rfl
theorem eqOk_ev : eqOk Try.prog 30 37 = true := by kernel_rfl
theorem mkV_ev (xs : List Value) : mkV Try.prog 37 xs = .agg xs.toArray := by
  unfold mkV
  rw [Try.underlying37]
theorem Ev.kd (a : Ev) : All2 Kd a.cells evSh := ⟨⟨_, rfl⟩, ⟨_, rfl⟩, ⟨_, rfl⟩, ⟨_, rfl⟩, ⟨_, rfl⟩, ⟨_, rfl⟩, trivial⟩

theorem run_eql_ev (a b : Ev) (w : World) : (binOp .eql 37 (.agg #[.int .i64 a.kind, .int .i64 a.producer, .int .i64 a.id, .int .i64 a.body, .int .i64 a.hepoch, .int .i64 a.hno])
    (.agg #[.int .i64 b.kind, .int .i64 b.producer, .int .i64 b.id, .int .i64 b.body, .int .i64 b.hepoch, .int .i64 b.hno])).run Try.prog w = .ok (.bool (decide (a = b))) w := by
  rw [← Ev.cellsEq_]
  exact run_eql_cells (P := Try.prog) w flat_ev eqOk_ev mkV_ev a.kd b.kd
theorem run_neq_ev (a b : Ev) (w : World) : (binOp .neq 37 (.agg #[.int .i64 a.kind, .int .i64 a.producer, .int .i64 a.id, .int .i64 a.body, .int .i64 a.hepoch, .int .i64 a.hno])
    (.agg #[.int .i64 b.kind, .int .i64 b.producer, .int .i64 b.id, .int .i64 b.body, .int .i64 b.hepoch, .int .i64 b.hno])).run Try.prog w = .ok (.bool (!decide (a = b))) w := by
  rw [← Ev.cellsEq_]
  exact run_neq_cells (P := Try.prog) w flat_ev eqOk_ev mkV_ev a.kd b.kd

theorem ev_info : (Try.prog.info? 37).map (fun i => (i.zero, i.size, i.bytes)) = some (some (.agg #[.int .i64 0, .int .i64 0, .int .i64 0, .int .i64 0, .int .i64 0, .int .i64 0]), 6, 48) := by kernel_rfl

def Ev.val (e : Ev) : Value := .agg #[.int .i64 e.kind, .int .i64 e.producer, .int .i64 e.id, .int .i64 e.body, .int .i64 e.hepoch, .int .i64 e.hno]

set_option maxRecDepth 100000 in
theorem arg_event {W : World} {v : Value} (h : ArgOk Try.prog W v 37) : ∃ e : Ev, v = e.val := by
  obtain ⟨⟨base, hk⟩, l, hl, ha⟩ := h
  rw [flat_ev] at hl
  cases hl
  obtain ⟨cs, rfl, _⟩ := okWide_struct Try.underlying37 hk
  obtain ⟨a1, l1, e, ⟨m1, rfl, _⟩, h3⟩ := All2.cons_ ha
  obtain ⟨a2, l2, rfl, ⟨m2, rfl, _⟩, h4⟩ := All2.cons_ h3
  obtain ⟨a3, l3, rfl, ⟨m3, rfl, _⟩, h5⟩ := All2.cons_ h4
  obtain ⟨a4, l4, rfl, ⟨m4, rfl, _⟩, h6⟩ := All2.cons_ h5
  obtain ⟨a5, l5, rfl, ⟨m5, rfl, _⟩, h7⟩ := All2.cons_ h6
  obtain ⟨a6, l6, rfl, ⟨m6, rfl, _⟩, h8⟩ := All2.cons_ h7
  have h9 := All2.nil_ h8
  subst h9
  refine ⟨⟨m1, m2, m3, m4, m5, m6⟩, ?_⟩
  simp only [Value.cells] at e
  unfold Ev.val
  congr 1
  exact Array.toList_inj.1 e

end Go.Proofs.Ytkjlafpafmihaaa
