/- Contracts of package directory and of the reference's: Check, ask, Where, DirectoryFault, WhereIs. -/
import Derived.Test.YtefkifgonadiiabDoorBlk
import Derived.Test.YtefkifgonadiiabDoorIn
import Derived.Test.YtefkifgonadiiabDoorEq
import Derived.Test.YtefkifgonadiiabDoorRecs
namespace Go.Proofs.YtefkifgonadiiabDoor
open Go.ChangeShapes Go.WideShapes Go.RowKit

/-- A place. -/
structure Pl where
  node : Int
  epoch : Int
  deriving DecidableEq
structure Dir where
  p0 : Pl
  p1 : Pl
  p2 : Pl
  p3 : Pl
  deriving DecidableEq
def Dir.cells (d : Dir) : List Value := [.int .i64 d.p0.node, .int .i64 d.p0.epoch, .int .i64 d.p1.node, .int .i64 d.p1.epoch, .int .i64 d.p2.node, .int .i64 d.p2.epoch, .int .i64 d.p3.node, .int .i64 d.p3.epoch]
def Dir.val (d : Dir) : Value := .agg #[.int .i64 d.p0.node, .int .i64 d.p0.epoch, .int .i64 d.p1.node, .int .i64 d.p1.epoch, .int .i64 d.p2.node, .int .i64 d.p2.epoch, .int .i64 d.p3.node, .int .i64 d.p3.epoch]
def Dir.at (d : Dir) : Nat → Pl
  | 0 => d.p0
  | 1 => d.p1
  | 2 => d.p2
  | _ => d.p3
def Dir.set (d : Dir) (k : Nat) (p : Pl) : Dir :=
  match k with
  | 0 => { d with p0 := p }
  | 1 => { d with p1 := p }
  | 2 => { d with p2 := p }
  | _ => { d with p3 := p }
def zeroPl : Pl := ⟨0, 0⟩
def nowhere : Pl := ⟨-1, 0⟩
def zeroDir : Dir := ⟨zeroPl, zeroPl, zeroPl, zeroPl⟩
def plOk (p : Pl) : Prop := (p.node = -1 ∧ p.epoch = 0) ∨ (0 ≤ p.node ∧ p.node ≤ 4 ∧ 1 ≤ p.epoch ∧ p.epoch ≤ 1048576)
open Classical in
/-- P6.1. -/
noncomputable def dirFault (d : Dir) : Int := if ∀ k, k < 4 → plOk (d.at k) then 0 else 6
theorem dirFault_bad {d : Dir} {k : Nat} (hk : k < 4) (h : ¬ plOk (d.at k)) : dirFault d = 6 := if_neg (fun h' => h (h' k hk))
theorem dirFault_ok {d : Dir} (h : ∀ k, k < 4 → plOk (d.at k)) : dirFault d = 0 := if_pos h
theorem dirFault_zero {d : Dir} (h : dirFault d = 0) : ∀ k, k < 4 → plOk (d.at k) := by
  unfold dirFault at h
  split at h
  · assumption
  · cases h

theorem Pl_cellsEq (a b : Pl) : cellsEq [.int .i64 a.node, .int .i64 a.epoch] [.int .i64 b.node, .int .i64 b.epoch] = decide (a = b) := by
  have := cellsEq_ints (xs := [a.node, a.epoch]) (ys := [b.node, b.epoch]) rfl
  simp only [List.map_cons, List.map_nil] at this
  rw [this, Bool.eq_iff_iff]
  obtain ⟨a1, a2⟩ := a
  obtain ⟨b1, b2⟩ := b
  simp
theorem flat_pl : flat Tryd.prog 30 23 = some (List.replicate 2 (.at_ (.int .i64))) := by kernel_rfl
theorem eqOk_pl : eqOk Tryd.prog 30 23 = true := by kernel_rfl
theorem mkV_pl (xs : List Value) : mkV Tryd.prog 23 xs = .agg xs.toArray := by
  unfold mkV
  rw [Tryd.underlying23]
theorem run_eql_pl (a b : Pl) (w : World) : (binOp .eql 23 (.agg #[.int .i64 a.node, .int .i64 a.epoch]) (.agg #[.int .i64 b.node, .int .i64 b.epoch])).run Tryd.prog w = .ok (.bool (decide (a = b))) w := by
  rw [← Pl_cellsEq]
  exact run_eql_cells (P := Tryd.prog) w flat_pl eqOk_pl mkV_pl (kd_ints [a.node, a.epoch]) (kd_ints [b.node, b.epoch])
theorem run_neq_pl (a b : Pl) (w : World) : (binOp .neq 23 (.agg #[.int .i64 a.node, .int .i64 a.epoch]) (.agg #[.int .i64 b.node, .int .i64 b.epoch])).run Tryd.prog w = .ok (.bool (!decide (a = b))) w := by
  rw [← Pl_cellsEq]
  exact run_neq_cells (P := Tryd.prog) w flat_pl eqOk_pl mkV_pl (kd_ints [a.node, a.epoch]) (kd_ints [b.node, b.epoch])

theorem pl_index0 (n0 e0 n1 e1 n2 e2 n3 e3 : Int) (w : World) : (Instr.index 24 (.agg #[.int .i64 n0, .int .i64 e0, .int .i64 n1, .int .i64 e1, .int .i64 n2, .int .i64 e2, .int .i64 n3, .int .i64 e3]) (.int .i64 0)).run Tryd.prog w = .ok (.agg #[.int .i64 n0, .int .i64 e0]) w := by kernel_rfl
theorem pl_index1 (n0 e0 n1 e1 n2 e2 n3 e3 : Int) (w : World) : (Instr.index 24 (.agg #[.int .i64 n0, .int .i64 e0, .int .i64 n1, .int .i64 e1, .int .i64 n2, .int .i64 e2, .int .i64 n3, .int .i64 e3]) (.int .i64 1)).run Tryd.prog w = .ok (.agg #[.int .i64 n1, .int .i64 e1]) w := by kernel_rfl
theorem pl_index2 (n0 e0 n1 e1 n2 e2 n3 e3 : Int) (w : World) : (Instr.index 24 (.agg #[.int .i64 n0, .int .i64 e0, .int .i64 n1, .int .i64 e1, .int .i64 n2, .int .i64 e2, .int .i64 n3, .int .i64 e3]) (.int .i64 2)).run Tryd.prog w = .ok (.agg #[.int .i64 n2, .int .i64 e2]) w := by kernel_rfl
theorem pl_index3 (n0 e0 n1 e1 n2 e2 n3 e3 : Int) (w : World) : (Instr.index 24 (.agg #[.int .i64 n0, .int .i64 e0, .int .i64 n1, .int .i64 e1, .int .i64 n2, .int .i64 e2, .int .i64 n3, .int .i64 e3]) (.int .i64 3)).run Tryd.prog w = .ok (.agg #[.int .i64 n3, .int .i64 e3]) w := by kernel_rfl
theorem pl_index (d : Dir) (k : Nat) (hk : k < 4) (w : World) : (Instr.index 24 (.agg #[.int .i64 d.p0.node, .int .i64 d.p0.epoch, .int .i64 d.p1.node, .int .i64 d.p1.epoch, .int .i64 d.p2.node, .int .i64 d.p2.epoch, .int .i64 d.p3.node, .int .i64 d.p3.epoch]) (.int .i64 k)).run Tryd.prog w = .ok (.agg #[.int .i64 (d.at k).node, .int .i64 (d.at k).epoch]) w := by
  have h : k = 0 ∨ k = 1 ∨ k = 2 ∨ k = 3 := by omega
  rcases h with rfl | rfl | rfl | rfl
  · exact pl_index0 _ _ _ _ _ _ _ _ w
  · exact pl_index1 _ _ _ _ _ _ _ _ w
  · exact pl_index2 _ _ _ _ _ _ _ _ w
  · exact pl_index3 _ _ _ _ _ _ _ _ w
theorem dir_row (d : Dir) (k : Nat) (hk : k < 4) : d.cells[k * 2]? = some (.int .i64 (d.at k).node) ∧ d.cells[k * 2 + 1]? = some (.int .i64 (d.at k).epoch) := by
  have h : k = 0 ∨ k = 1 ∨ k = 2 ∨ k = 3 := by omega
  rcases h with rfl | rfl | rfl | rfl <;> exact ⟨rfl, rfl⟩

/-- The package's variable, as it was laid. -/
structure Nw (w : World) : Prop where
  c0 : w.cell? ⟨0, 0, none⟩ = some (.int .i64 (-1))
  c1 : w.cell? ⟨0, 1, none⟩ = some (.int .i64 0)
  lt : 0 < w.heap.size
theorem Nw.on {w w' : World} (h : Nw w) (hb : Below w.heap.size w w') : Nw w' :=
  ⟨(hb.cell (p := ⟨0, 0, none⟩) h.lt).trans h.c0, (hb.cell (p := ⟨0, 1, none⟩) h.lt).trans h.c1, Nat.lt_of_lt_of_le h.lt hb.size⟩

def DPost (w : World) (k : Int) (e : Ending) (w' : World) : Prop := e = .returned (.int .i64 k) ∧ Below w.heap.size w w'
def PlPost (w : World) (r : Pl × Int) (e : Ending) (w' : World) : Prop := e = .returned (.tuple #[.agg #[.int .i64 r.1.node, .int .i64 r.1.epoch], .int .i64 r.2]) ∧ Below w.heap.size w w'
def DirPost (w : World) (r : Dir × Int) (e : Ending) (w' : World) : Prop := e = .returned (.tuple #[r.1.val, .int .i64 r.2]) ∧ Below w.heap.size w w'

set_option maxRecDepth 100000 in
set_option maxHeartbeats 2000000 in
theorem DCheck_calls (d : Dir) (w : World) (hn : Nw w) : Calls Tryd.prog 12 #[d.val] w (DPost w (dirFault d)) := by
  have HN := Lib.hid hn
  have HI := Lib.hid (pl_index d)
  have HF := Lib.hid (fun k hk h => dirFault_bad (d := d) (k := k) hk h)
  have H0 := Lib.hid (dirFault_ok (d := d))
  clear hn
  generalize dirFault d = z at HF H0 ⊢
  have hat := Lib.hid (rfl : d.at = d.at)
  generalize d.at = f at HI HF H0 hat
  clear hat
  obtain ⟨⟨n0, e0⟩, ⟨n1, e1⟩, ⟨n2, e2⟩, ⟨n3, e3⟩⟩ := d
  unfold Dir.val
  simp only at HI ⊢
  go_enter Tryd.func12, Tryd.ntmps12
  go_wp2_with fail
  go_loopw [7] (fun i wr => ∃ k : Nat, k ≤ 4 ∧ i = .int .i64 k ∧ (∀ j, j < k → plOk (f j)) ∧ Below w.heap.size w wr) (fun i _ => 4 - (intOf i).toNat)
  case atStart => exact ⟨0, by omega, rfl, fun j hj => absurd hj (by omega), by go_grown⟩
  case round =>
    obtain ⟨k, hk, rfl, hall, hb⟩ := hrel
    have hsz : w.heap.size ≤ wr.heap.size := hb.size
    have HB := Lib.hid hb
    have HA := Lib.hid hall
    by_cases hlt : k < 4
    · have hi := HI.out k hlt
      have HFk := Lib.hid (HF.out k hlt)
      have HQ : Hid (plOk (f k) → ∀ j, j < k + 1 → plOk (f j)) := Lib.hid (fun h j hj => by
        by_cases e : j = k
        · rw [e]; exact h
        · exact HA.out j (by omega))
      obtain ⟨g0, g1, g2⟩ := HN.out.on hb
      generalize f k = p at hi HFk HQ
      have hq := run_eql_pl p nowhere
      unfold nowhere at hq
      simp only at hq
      clear hall
      by_cases hp : p = ⟨-1, 0⟩
      · have HG := Lib.hid (HQ.out (by rw [hp]; exact .inl ⟨rfl, rfl⟩))
        have hd : decide (p = ⟨-1, 0⟩) = true := by simpa using hp
        rw [hd] at hq
        clear hp hd
        obtain ⟨pn, pe⟩ := p
        simp only at hi hq
        go_wp2_with fail
        go_roundw
        case rel => exact ⟨k + 1, by omega, by go_num, HG.out, by go_grown⟩
        case measure => simp [intOf]; omega
      · have hd : decide (p = ⟨-1, 0⟩) = false := by simpa using hp
        rw [hd] at hq
        clear hd
        obtain ⟨pn, pe⟩ := p
        simp only [Pl.mk.injEq] at hi hq hp
        have HP := Lib.hid hp
        clear hp
        by_cases b1 : pn < 0
        · have hp := HP.out
          have e := HFk.out (by unfold plOk; simp only; omega)
          subst e
          go_wp2_with fail
          go_ret
          exact ⟨rfl, by go_grown⟩
        by_cases b2 : 5 ≤ pn
        · have e := HFk.out (by unfold plOk; simp only; omega)
          subst e
          go_wp2_with fail
          go_ret
          exact ⟨rfl, by go_grown⟩
        by_cases b3 : pe < 1
        · have e := HFk.out (by unfold plOk; simp only; omega)
          subst e
          go_wp2_with fail
          go_ret
          exact ⟨rfl, by go_grown⟩
        by_cases b4 : 1048576 < pe
        · have e := HFk.out (by unfold plOk; simp only; omega)
          subst e
          go_wp2_with fail
          go_ret
          exact ⟨rfl, by go_grown⟩
        have HG := Lib.hid (HQ.out (by unfold plOk; simp only; omega))
        go_wp2_with fail
        go_roundw
        case rel => exact ⟨k + 1, by omega, by go_num, HG.out, by go_grown⟩
        case measure => simp [intOf]; omega
    · obtain rfl : k = 4 := by omega
      have e := H0.out HA.out
      subst e
      clear hall
      go_wp2_with fail
      go_ret
      exact ⟨rfl, by go_grown⟩

set_option maxRecDepth 100000 in
set_option maxHeartbeats 2000000 in
theorem DirectoryFault_calls (d : Dir) (w : World) : Calls Tryd.prog 10 #[d.val] w (DPost w (dirFault d)) := by
  have HI := Lib.hid (dir_row d)
  have HF := Lib.hid (fun k hk h => dirFault_bad (d := d) (k := k) hk h)
  have H0 := Lib.hid (dirFault_ok (d := d))
  generalize dirFault d = z at HF H0 ⊢
  have hat := Lib.hid (rfl : d.at = d.at)
  generalize d.at = f at HI HF H0 hat
  clear hat
  obtain ⟨⟨n0, e0⟩, ⟨n1, e1⟩, ⟨n2, e2⟩, ⟨n3, e3⟩⟩ := d
  unfold Dir.val
  unfold Dir.cells at HI
  simp only at HI ⊢
  go_enter Tryd.func10, Tryd.ntmps10
  go_wp2_with fail
  go_loopw [3] (fun i wr => ∃ k : Nat, k ≤ 4 ∧ i = .int .i64 k ∧ (∀ j, j < k → plOk (f j)) ∧ Blk wr w.heap.size #[.int .i64 n0, .int .i64 e0, .int .i64 n1, .int .i64 e1, .int .i64 n2, .int .i64 e2, .int .i64 n3, .int .i64 e3] 26 ∧ Below w.heap.size w wr) (fun i _ => 4 - (intOf i).toNat)
  case atStart => exact ⟨0, by omega, rfl, fun j hj => absurd hj (by omega), Blk.new _ _ _, by go_grown⟩
  case round =>
    obtain ⟨k, hk, rfl, hall, hblk, hb⟩ := hrel
    have hsz : w.heap.size ≤ wr.heap.size := hb.size
    have HB := Lib.hid hb
    have HA := Lib.hid hall
    have HK := Lib.hid hblk
    by_cases hlt : k < 4
    · have HFk := Lib.hid (HF.out k hlt)
      have HQ : Hid (plOk (f k) → ∀ j, j < k + 1 → plOk (f j)) := Lib.hid (fun h j hj => by
        by_cases e : j = k
        · rw [e]; exact h
        · exact HA.out j (by omega))
      obtain ⟨r0, r1⟩ := HI.out k hlt
      have c0 := hblk.cell (k := k * 2) (by simpa using r0)
      have c1 := hblk.cell (k := k * 2 + 1) (by simpa using r1)
      have hz : w.heap.size < wr.heap.size := hblk.lt
      clear hall hblk r0 r1
      generalize f k = p at HFk HQ c0 c1
      obtain ⟨pn, pe⟩ := p
      simp only at c0 c1
      by_cases hp : pn = -1 ∧ pe = 0
      · obtain ⟨rfl, rfl⟩ := hp
        have HG := Lib.hid (HQ.out (.inl ⟨rfl, rfl⟩))
        go_wp2_with fail
        go_roundw
        case rel => exact ⟨k + 1, by omega, by go_num, HG.out, HK.out.alloc _, by go_grown⟩
        case measure => simp [intOf]; omega
      · have t : (pn == -1) = false ∨ (pn == -1) = true ∧ (pe == 0) = false := by
          by_cases h : pn = -1
          · exact .inr ⟨by simpa using h, by simpa using fun h2 => hp ⟨h, h2⟩⟩
          · exact .inl (by simpa using h)
        have HP := Lib.hid hp
        clear hp
        cases i1 : inR pn 0 4
        · have h1 := inR_false.1 i1
          have hp := HP.out
          have e := HFk.out (by unfold plOk; simp only; omega)
          subst e
          clear hp
          rcases t with t | ⟨t, t2⟩
          · go_wp2_with (go_at_call 11; refine (In_calls _ _ _ _).mono ?_; rintro e w' ⟨rfl, rfl⟩)
            go_ret
            exact ⟨rfl, by go_grown⟩
          · go_wp2_with (go_at_call 11; refine (In_calls _ _ _ _).mono ?_; rintro e w' ⟨rfl, rfl⟩)
            go_ret
            exact ⟨rfl, by go_grown⟩
        · have h1 := inR_true.1 i1
          have t1 : (pn == -1) = false := by rw [beq_eq_false_iff_ne]; omega
          clear t
          cases i2 : inR pe 1 1048576
          · have h2 := inR_false.1 i2
            have e := HFk.out (by unfold plOk; simp only; omega)
            subst e
            go_wp2_with (go_at_call 11; refine (In_calls _ _ _ _).mono ?_; rintro e w' ⟨rfl, rfl⟩)
            go_ret
            exact ⟨rfl, by go_grown⟩
          · have h2 := inR_true.1 i2
            have HG := Lib.hid (HQ.out (by unfold plOk; simp only; omega))
            go_wp2_with (go_at_call 11; refine (In_calls _ _ _ _).mono ?_; rintro e w' ⟨rfl, rfl⟩)
            go_roundw
            case rel => exact ⟨k + 1, by omega, by go_num, HG.out, HK.out.alloc _, by go_grown⟩
            case measure => simp [intOf]; omega
    · obtain rfl : k = 4 := by omega
      have e := H0.out HA.out
      subst e
      clear hall hblk
      go_wp2_with fail
      go_ret
      exact ⟨rfl, by go_grown⟩
end Go.Proofs.YtefkifgonadiiabDoor
