/- Contracts: client.New, ref.ClientNew, berthshiftlaw.sameClient. -/
import Derived.Test.YtefkifgonadiiaaSame
import Derived.Test.YtefkifgonadiiaaIn
namespace Go.Proofs.Ytefkifgonadiiaa
open Go.ChangeShapes Go.WideShapes Go.RowKit

/-- Four numbers. -/
structure Four4 where
  a : Int
  b : Int
  c : Int
  d : Int
  deriving DecidableEq
def Four4.cells (x : Four4) : List Value := [.int .i64 x.a, .int .i64 x.b, .int .i64 x.c, .int .i64 x.d]
theorem Four4.cellsEq_ (x y : Four4) : cellsEq x.cells y.cells = decide (x = y) := by
  obtain ⟨a1, a2, a3, a4⟩ := x
  obtain ⟨b1, b2, b3, b4⟩ := y
  simp only [Four4.cells, cellsEq, cellEq, Four4.mk.injEq, Bool.and_true]
  rw [Bool.eq_iff_iff]
  simp
def fourSh : List Sh := [.at_ (.int .i64), .at_ (.int .i64), .at_ (.int .i64), .at_ (.int .i64)]
theorem flat_four : flat Try.prog 30 38 = some fourSh := by kernel_rfl
theorem eqOk_four : eqOk Try.prog 30 38 = true := by kernel_rfl
theorem mkV_four (xs : List Value) : mkV Try.prog 38 xs = .agg xs.toArray := by
  unfold mkV
  rw [Try.underlying38]
theorem Four4.kd (x : Four4) : All2 Kd x.cells fourSh := ⟨⟨_, rfl⟩, ⟨_, rfl⟩, ⟨_, rfl⟩, ⟨_, rfl⟩, trivial⟩
theorem run_eql_four (x y : Four4) (w : World) : (binOp .eql 38 (.agg #[.int .i64 x.a, .int .i64 x.b, .int .i64 x.c, .int .i64 x.d]) (.agg #[.int .i64 y.a, .int .i64 y.b, .int .i64 y.c, .int .i64 y.d])).run Try.prog w = .ok (.bool (decide (x = y))) w := by
  rw [← Four4.cellsEq_]
  exact run_eql_cells (P := Try.prog) w flat_four eqOk_four mkV_four x.kd y.kd

def BPost (w : World) (b : Bool) (e : Ending) (w' : World) : Prop := e = .returned (.bool b) ∧ Below w.heap.size w w'

set_option maxRecDepth 100000 in
set_option maxHeartbeats 2000000 in
theorem sameClient_calls (A A' : Option Addr) (n c n' c' : Nat) (l l' : List Ev) (p p' t t' : Int) (x y : Four4) (w : World) (h : Rd w w.heap.size 6 A n (evCells l)) (h' : Rd w w.heap.size 6 A' n' (evCells l')) (hm : n ≤ maxLen) (hm' : n' ≤ maxLen) :
    Calls Try.prog 24 #[.agg #[.int .i64 p, .int .i64 t, .slice A n c, .int .i64 x.a, .int .i64 x.b, .int .i64 x.c, .int .i64 x.d], .agg #[.int .i64 p', .int .i64 t', .slice A' n' c', .int .i64 y.a, .int .i64 y.b, .int .i64 y.c, .int .i64 y.d]] w
      (BPost w (p == p' && t == t' && decide (x = y) && decide (l = l'))) := by
  have H := Lib.hid h
  have H' := Lib.hid h'
  have hq := run_eql_four x y
  clear h h'
  cases hp : (p == p')
  · simp only [Bool.false_and]
    go_enter Try.func24, Try.ntmps24
    go_wp2_with fail
    go_ret
    exact ⟨rfl, by go_grown⟩
  · cases ht : (t == t')
    · simp only [Bool.false_and, Bool.true_and]
      go_enter Try.func24, Try.ntmps24
      go_wp2_with fail
      go_ret
      exact ⟨rfl, by go_grown⟩
    · generalize decide (x = y) = bx at hq
      obtain ⟨x0, x1, x2, x3⟩ := x
      obtain ⟨y0, y1, y2, y3⟩ := y
      simp only at hq
      cases bx
      · simp only [Bool.false_and, Bool.true_and]
        go_enter Try.func24, Try.ntmps24
        go_wp2_with fail
        go_ret
        exact ⟨rfl, by go_grown⟩
      · simp only [Bool.true_and]
        go_enter Try.func24, Try.ntmps24
        go_wp2_with fail
        refine (sameEvents_calls A A' n c n' c' l l' _ (by exact H.out.on (by go_grown)) (by exact H'.out.on (by go_grown)) hm hm').mono ?_
        rintro e w' ⟨rfl, q, rfl⟩
        go_wp2_with fail
        go_ret
        exact ⟨rfl, (((Below.refl _ w).alloc (Nat.le_refl _) _).alloc (by simp) _).trans ⟨rfl, rfl, rfl, Nat.le_refl _, fun _ _ => rfl⟩⟩

/-- P10.2: producer, each place, errno. -/
def newM (p : Int) : Int × Int × Int := if 0 ≤ p ∧ p ≤ 3 then (p, -1, 0) else (0, 0, 2)
def NewPost (w : World) (r : Int × Int × Int) (e : Ending) (w' : World) : Prop :=
  e = .returned (.tuple #[.agg #[.int .i64 r.1, .int .i64 0, .slice none 0 0, .int .i64 r.2.1, .int .i64 r.2.1, .int .i64 r.2.1, .int .i64 r.2.1], .int .i64 r.2.2]) ∧ Below w.heap.size w w'

set_option maxRecDepth 100000 in
set_option maxHeartbeats 2000000 in
theorem ClientNew_calls (p : Int) (w : World) : Calls Try.prog 23 #[.int .i64 p] w (NewPost w (newM p)) := by
  by_cases h : 0 ≤ p ∧ p ≤ 3
  · rw [show newM p = (p, -1, 0) from if_pos h]
    have hin : inR p 0 3 = true := inR_true.2 h
    go_enter Try.func23, Try.ntmps23
    go_wp2_with fail
    refine (In_calls _ _ _ _).mono ?_
    rintro e w2 ⟨rfl, rfl⟩
    rw [hin]
    go_wp2_with fail
    refine bodyPost_ret (v := .tuple #[.agg #[.int .i64 p, .int .i64 0, .slice none 0 0, .int .i64 (-1), .int .i64 (-1), .int .i64 (-1), .int .i64 (-1)], .int .i64 0]) (by simp [results, Try.results23, go_sem]) rfl ?_
    exact ⟨rfl, by go_grown⟩
  · rw [show newM p = (0, 0, 2) from if_neg h]
    have hin : inR p 0 3 = false := inR_false.2 (by omega)
    clear h
    go_enter Try.func23, Try.ntmps23
    go_wp2_with fail
    refine (In_calls _ _ _ _).mono ?_
    rintro e w2 ⟨rfl, rfl⟩
    rw [hin]
    go_wp2_with fail
    refine bodyPost_ret (v := .tuple #[.agg #[.int .i64 0, .int .i64 0, .slice none 0 0, .int .i64 0, .int .i64 0, .int .i64 0, .int .i64 0], .int .i64 2]) (by simp [results, Try.results23, go_sem]) rfl ?_
    exact ⟨rfl, by go_grown⟩

def cliRow (p : Int) (bs : List Int) : Array Value := (.int .i64 p :: .int .i64 0 :: .slice none 0 0 :: bs.map (Value.int .i64)).toArray
structure CB (w : World) (p : Int) (bs : List Int) (wr : World) : Prop where
  below : Below w.heap.size w wr
  res : wr.heap[w.heap.size]? = some (.cells #[.int .i64 0, .int .i64 0, .slice none 0 0, .int .i64 0, .int .i64 0, .int .i64 0, .int .i64 0] 40 (0, 0))
  row : wr.heap[w.heap.size + 1]? = some (.cells (cliRow p bs) 40 (0, 0))
theorem CB.set_ {w wr : World} {p : Int} {bs : List Int} (h : CB w p bs wr) (j : Nat) : CB w p (bs.set j (-1)) (wr.setCell ⟨w.heap.size + 1, 3 + j, none⟩ (.int .i64 (-1))) := by
  refine ⟨h.below.setCell (by simp) _, ?_, ?_⟩
  · rw [Below.heap_setCell _ _ _ _ (by simp)]
    exact h.res
  · have hr := h.row
    simp only [World.setCell, Array.getElem?_modify, hr]
    simp [cliRow, Nat.add_comm 3 j, List.map_set]
theorem CB.free {w wr : World} {p : Int} {bs : List Int} (h : CB w p bs wr) (j : Nat) : wr.frozen? ⟨w.heap.size + 1, j, none⟩ = false := by
  have := h.row
  simp [World.frozen?, this]
theorem CB.cell {w wr : World} {p : Int} {bs : List Int} (h : CB w p bs wr) {j : Nat} (hj : j < bs.length) : wr.cell? ⟨w.heap.size + 1, 3 + j, none⟩ = some (.int .i64 (bs.getD j 0)) := by
  rw [cell_of_row wr _ (3 + j) _ _ (0, 0) h.row, Nat.add_comm]
  simp [cliRow, hj]
theorem CB.mk_ (w : World) (p : Int) : CB w p [0, 0, 0, 0] ((w.alloc (.cells #[.int .i64 0, .int .i64 0, .slice none 0 0, .int .i64 0, .int .i64 0, .int .i64 0, .int .i64 0] 40)).alloc
    (.cells #[.int .i64 p, .int .i64 0, .slice none 0 0, .int .i64 0, .int .i64 0, .int .i64 0, .int .i64 0] 40)) := by
  refine ⟨by go_grown, ?_, ?_⟩
  · show ((w.heap.push _).push _)[_]? = _
    rw [Array.getElem?_push, if_neg (by simp), Array.getElem?_push, if_pos rfl]
  · show ((w.heap.push _).push _)[_]? = _
    rw [Array.getElem?_push, if_pos (by simp)]
    rfl
def negs : Nat → List Int
  | 0 => [0, 0, 0, 0]
  | k + 1 => (negs k).set k (-1)
theorem negs_len (k : Nat) : (negs k).length = 4 := by
  induction k with
  | zero => rfl
  | succ k ih => simp [negs, ih]

set_option maxRecDepth 100000 in
set_option maxHeartbeats 2000000 in
theorem New_calls (p : Int) (w : World) : Calls Try.prog 22 #[.int .i64 p] w (NewPost w (newM p)) := by
  by_cases h0 : p < 0
  · rw [show newM p = (0, 0, 2) from if_neg (by omega)]
    go_enter Try.func22, Try.ntmps22
    go_wp2_with fail
    refine bodyPost_ret (v := .tuple #[.agg #[.int .i64 0, .int .i64 0, .slice none 0 0, .int .i64 0, .int .i64 0, .int .i64 0, .int .i64 0], .int .i64 2]) (by simp [results, Try.results22, go_sem]) rfl ?_
    exact ⟨rfl, by go_grown⟩
  · by_cases h1 : 4 ≤ p
    · rw [show newM p = (0, 0, 2) from if_neg (by omega)]
      go_enter Try.func22, Try.ntmps22
      go_wp2_with fail
      refine bodyPost_ret (v := .tuple #[.agg #[.int .i64 0, .int .i64 0, .slice none 0 0, .int .i64 0, .int .i64 0, .int .i64 0, .int .i64 0], .int .i64 2]) (by simp [results, Try.results22, go_sem]) rfl ?_
      exact ⟨rfl, by go_grown⟩
    · rw [show newM p = (p, -1, 0) from if_pos (by omega)]
      go_enter Try.func22, Try.ntmps22
      go_wp2_with fail
      go_loopw [15] (fun i wr => ∃ k : Nat, k ≤ 4 ∧ i = .int .i64 k ∧ CB w p (negs k) wr) (fun i _ => 4 - (intOf i).toNat)
      case atStart => exact ⟨0, by omega, rfl, CB.mk_ w p⟩
      case round =>
        obtain ⟨k, hk, rfl, hw⟩ := hrel
        have HW := Lib.hid hw
        have hlen := negs_len k
        by_cases hlt : k < 4
        · have cj := hw.cell (j := k) (by omega)
          have fj := hw.free (3 + k)
          have HE : Hid (negs (k + 1) = (negs k).set k (-1)) := Lib.hid rfl
          clear hw
          generalize negs k = bs at HW HE hlen cj
          go_wp2_with fail
          go_roundw
          case rel => exact ⟨k + 1, by omega, by go_num, by rw [HE.out]; exact HW.out.set_ k⟩
          case measure => simp [intOf]; omega
        · obtain rfl : k = 4 := by omega
          have e4 : negs 4 = [-1, -1, -1, -1] := rfl
          rw [e4] at HW hlen
          clear hw e4
          have hr := HW.out.row
          have g0 := cell_of_row wr (w.heap.size + 1) 0 _ _ (0, 0) hr
          have g1 := cell_of_row wr (w.heap.size + 1) 1 _ _ (0, 0) hr
          have g2 := cell_of_row wr (w.heap.size + 1) 2 _ _ (0, 0) hr
          have g3 := cell_of_row wr (w.heap.size + 1) 3 _ _ (0, 0) hr
          have g4 := cell_of_row wr (w.heap.size + 1) 4 _ _ (0, 0) hr
          have g5 := cell_of_row wr (w.heap.size + 1) 5 _ _ (0, 0) hr
          have g6 := cell_of_row wr (w.heap.size + 1) 6 _ _ (0, 0) hr
          simp [cliRow] at g0 g1 g2 g3 g4 g5 g6
          have r0 := cell_of_row wr w.heap.size 0 _ _ (0, 0) HW.out.res
          have r1 := cell_of_row wr w.heap.size 1 _ _ (0, 0) HW.out.res
          have r2 := cell_of_row wr w.heap.size 2 _ _ (0, 0) HW.out.res
          have r3 := cell_of_row wr w.heap.size 3 _ _ (0, 0) HW.out.res
          have r4 := cell_of_row wr w.heap.size 4 _ _ (0, 0) HW.out.res
          have r5 := cell_of_row wr w.heap.size 5 _ _ (0, 0) HW.out.res
          have r6 := cell_of_row wr w.heap.size 6 _ _ (0, 0) HW.out.res
          simp at r0 r1 r2 r3 r4 r5 r6
          have fz : ∀ j, wr.frozen? ⟨w.heap.size, j, none⟩ = false := fun j => by
            have := HW.out.res
            simp [World.frozen?, this]
          clear hr
          go_wp2_with fail
          refine bodyPost_ret (v := .tuple #[.agg #[.int .i64 p, .int .i64 0, .slice none 0 0, .int .i64 (-1), .int .i64 (-1), .int .i64 (-1), .int .i64 (-1)], .int .i64 0]) (by simp [results, Try.results22, go_sem, r0, r1, r2, r3, r4, r5, r6]) rfl ?_
          have hB := HW.out.below
          exact ⟨rfl, by go_grown⟩
end Go.Proofs.Ytefkifgonadiiaa
