/- 'berthshiftlaw.PackDecodes' returns true at all bytes. (The steps are printed by a program of mine: wip/px.) -/
import Derived.Test.YtkjlafpafmihaaaRecOf2
import Derived.Test.YtkjlafpafmihaaaTake
import Derived.Test.YtkjlafpafmihaaaArgs
namespace Go.Proofs.Ytkjlafpafmihaaa
open Go.ChangeShapes Go.WideShapes Go.RowKit

theorem own_cap {w : World} {base : Nat} {e : TypeId} {size : Nat} {A : Option Addr} {n c : Nat} {xs : List Value} (h : w.ownsRow base e size (.slice A n c) n xs) : n ≤ c ∧ c ≤ maxLen := by
  obtain ⟨A', c', e1, h1, h2⟩ := own_form h
  cases e1
  exact ⟨h1, h2⟩
theorem Rcd.kd (a : Rcd) : All2 Kd [.int .i64 a.kind, .int .i64 a.queue, .int .i64 a.epoch, .int .i64 a.peer, .int .i64 a.ev.kind, .int .i64 a.ev.producer, .int .i64 a.ev.id, .int .i64 a.ev.body, .int .i64 a.ev.hepoch, .int .i64 a.ev.hno] rcdSh := ⟨⟨_, rfl⟩, ⟨_, rfl⟩, ⟨_, rfl⟩, ⟨_, rfl⟩, ⟨_, rfl⟩, ⟨_, rfl⟩, ⟨_, rfl⟩, ⟨_, rfl⟩, ⟨_, rfl⟩, ⟨_, rfl⟩, trivial⟩
theorem eqOk_rcd : eqOk Try.prog 30 51 = true := by kernel_rfl
theorem mkV_rcd (xs : List Value) : mkV Try.prog 51 xs = .agg xs.toArray := by
  unfold mkV
  rw [Try.underlying51]
theorem run_eql_rcd (r : Rcd) (w : World) : (binOp .eql 51 r.val r.val).run Try.prog w = .ok (.bool true) w := by
  have h := run_eql_cells (P := Try.prog) w flat_rcd eqOk_rcd mkV_rcd r.kd r.kd
  rw [show cellsEq [.int .i64 r.kind, .int .i64 r.queue, .int .i64 r.epoch, .int .i64 r.peer, .int .i64 r.ev.kind, .int .i64 r.ev.producer, .int .i64 r.ev.id, .int .i64 r.ev.body, .int .i64 r.ev.hepoch, .int .i64 r.ev.hno] [.int .i64 r.kind, .int .i64 r.queue, .int .i64 r.epoch, .int .i64 r.peer, .int .i64 r.ev.kind, .int .i64 r.ev.producer, .int .i64 r.ev.id, .int .i64 r.ev.body, .int .i64 r.ev.hepoch, .int .i64 r.ev.hno] = true by simp [cellsEq, cellEq]] at h
  exact h
theorem sameBy_calls {A A' : Option Addr} {n n' c c' : Nat} {l : List UInt8} {w : World} {B B' : Nat} (h : Rd w B 1 A n (byteCells l)) (h' : Rd w B' 1 A' n' (byteCells l)) : Calls Try.prog 42 #[.slice A n c, .slice A' n' c'] w fun e w' => e = .returned (.bool true) ∧ w = w' := by
  have := sameBytes_calls A A' n n' c c' l l w h h'
  rw [show (l == l) = true by simp] at this
  exact this

set_option maxRecDepth 100000 in
set_option maxHeartbeats 2000000 in
theorem packDecodes_calls (A : Option Addr) (c : Nat) (b : List UInt8) (w : World) (h : Rd w w.heap.size 1 A b.length (byteCells b)) (hn : b.length ≤ c) (hcm : c ≤ maxLen) (hc : b.length ≤ reachBytes) :
    Calls Try.prog 9 #[.slice A b.length c] w fun e w' => e = .returned (.bool true) ∧ Below w.heap.size w w' := by
  have S := (St.start w).addRd h
  refine calls_of_wC (N := 33) (vs := [.slice A b.length c]) Try.func9 rfl rfl rfl ?_
  refine wC_sub (l' := [(0, .slice A b.length c)]) ⟨rfl, trivial⟩ ?_
  refine wC_seq ?_
  refine wC_region ?_
  refine wL_val (v := .bool false) (wn rfl) rfl rfl (y_assign rfl rfl) ?_
  refine wL_nil ?_
  refine wQ_then ?_
  refine wC_seq ?_
  refine wC_region ?_
  refine wL_val (v := .slice A b.length c) (wn rfl) rfl rfl (y_move rfl rfl) ?_
  refine wL_call (vs := [.slice A b.length c]) (wn rfl) rfl rfl (e_call (vs := [.slice A b.length c]) rfl en49 ⟨rfl, trivial⟩) (octets_calls A b.length c b _ (St.rd 0 S rfl) hc) ?_
  rintro _ w5 ⟨A1, c2, rfl, hb3, ho4⟩
  refine ⟨_, rfl, ?_⟩
  have S6 := S.onOwn hb3 ho4
  clear hb3 ho4 S
  change St _ _ _ [.own 5 1 (.slice A1 b.length c2) b.length (byteCells b), .rd 1 A b.length (byteCells b)] at S6
  refine wL_val (v := .slice A1 b.length c2) (wn rfl) rfl rfl (y_assign rfl rfl) ?_
  refine wL_nil ?_
  refine wQ_sub (l' := [(0, .slice A b.length c), (2, .bool false), (3, .slice A1 b.length c2)]) ⟨rfl, rfl, rfl, trivial⟩ ?_
  refine wQ_then ?_
  refine wC_seq ?_
  refine wC_region ?_
  refine wL_val (v := .slice A1 b.length c2) (wn rfl) rfl rfl (y_move rfl rfl) ?_
  refine wL_call (vs := [.slice A1 b.length c2]) (wn rfl) rfl rfl (e_call (vs := [.slice A1 b.length c2]) rfl en50 ⟨rfl, trivial⟩) (Decode_calls A1 b.length c2 b _ (St.ord 0 S6 rfl) (own_cap (S6.own 0 rfl)).1 (own_cap (S6.own 0 rfl)).2) ?_
  rintro _ w7 ⟨rfl, hb9⟩
  refine ⟨_, rfl, ?_⟩
  have S8 := S6.on hb9
  clear hb9 S6
  refine wL_val (v := .tuple #[.agg #[.int .i64 ((decM b).1.kind), .int .i64 ((decM b).1.queue), .int .i64 ((decM b).1.epoch), .int .i64 ((decM b).1.peer), .int .i64 ((decM b).1.ev.kind), .int .i64 ((decM b).1.ev.producer), .int .i64 ((decM b).1.ev.id), .int .i64 ((decM b).1.ev.body), .int .i64 ((decM b).1.ev.hepoch), .int .i64 ((decM b).1.ev.hno)], .int .i64 ((decM b).2)]) (wn rfl) rfl rfl (y_move rfl rfl) ?_
  refine wL_val (v := .agg #[.int .i64 ((decM b).1.kind), .int .i64 ((decM b).1.queue), .int .i64 ((decM b).1.epoch), .int .i64 ((decM b).1.peer), .int .i64 ((decM b).1.ev.kind), .int .i64 ((decM b).1.ev.producer), .int .i64 ((decM b).1.ev.id), .int .i64 ((decM b).1.ev.body), .int .i64 ((decM b).1.ev.hepoch), .int .i64 ((decM b).1.ev.hno)]) (wn rfl) rfl rfl (y_extract rfl rfl rfl) ?_
  refine wL_val (v := .int .i64 ((decM b).2)) (wn rfl) rfl rfl (y_extract rfl rfl rfl) ?_
  refine wL_new (V := fun b => .pointer (some ⟨b, 0, none⟩)) (row := #[.int .i64 0, .int .i64 0, .int .i64 0, .int .i64 0, .int .i64 0, .int .i64 0, .int .i64 0, .int .i64 0, .int .i64 0, .int .i64 0]) (t := 51) S8 (wn rfl) rfl rfl (d_alloc rfl (Try.zeroValue51 _) rfl) ?_
  intro b10 w11 S12
  clear S8
  refine wL_st (cs := #[.int .i64 ((decM b).1.kind), .int .i64 ((decM b).1.queue), .int .i64 ((decM b).1.epoch), .int .i64 ((decM b).1.peer), .int .i64 ((decM b).1.ev.kind), .int .i64 ((decM b).1.ev.producer), .int .i64 ((decM b).1.ev.id), .int .i64 ((decM b).1.ev.body), .int .i64 ((decM b).1.ev.hepoch), .int .i64 ((decM b).1.ev.hno)]) (row' := #[.int .i64 ((decM b).1.kind), .int .i64 ((decM b).1.queue), .int .i64 ((decM b).1.epoch), .int .i64 ((decM b).1.peer), .int .i64 ((decM b).1.ev.kind), .int .i64 ((decM b).1.ev.producer), .int .i64 ((decM b).1.ev.id), .int .i64 ((decM b).1.ev.body), .int .i64 ((decM b).1.ev.hepoch), .int .i64 ((decM b).1.ev.hno)]) (fs' := [.blk b10 #[.int .i64 ((decM b).1.kind), .int .i64 ((decM b).1.queue), .int .i64 ((decM b).1.epoch), .int .i64 ((decM b).1.peer), .int .i64 ((decM b).1.ev.kind), .int .i64 ((decM b).1.ev.producer), .int .i64 ((decM b).1.ev.id), .int .i64 ((decM b).1.ev.body), .int .i64 ((decM b).1.ev.hepoch), .int .i64 ((decM b).1.ev.hno)] 51, .own 5 1 (.slice A1 b.length c2) b.length (byteCells b), .rd 1 A b.length (byteCells b) ]) 0 S12 (wn rfl) rfl rfl rfl rfl rfl rfl inf51 rfl (oneAll rfl) (Nat.le_of_ble_eq_true rfl) (setAll_all rfl) rfl ?_
  intro w13 S14
  clear S12
  refine wL_val (v := .int .i64 ((decM b).2)) (wn rfl) rfl rfl (y_assign rfl rfl) ?_
  refine wL_nil ?_
  refine wQ_sub (l' := [(0, .slice A b.length c), (2, .bool false), (3, .slice A1 b.length c2), (4, .pointer (some ⟨b10, 0, none⟩)), (5, .int .i64 ((decM b).2))]) ⟨rfl, rfl, rfl, rfl, rfl, trivial⟩ ?_
  refine wQ_then ?_
  refine wC_seq ?_
  refine wC_region ?_
  refine wL_val (v := .slice A b.length c) (wn rfl) rfl rfl (y_move rfl rfl) ?_
  refine wL_call (vs := [.slice A b.length c]) (wn rfl) rfl rfl (e_call (vs := [.slice A b.length c]) rfl en51 ⟨rfl, trivial⟩) (RecordOf_calls A c b _ (St.rd 2 S14 rfl) hn hcm) ?_
  rintro _ w15 ⟨rfl, hb17⟩
  refine ⟨_, rfl, ?_⟩
  have S16 := S14.on hb17
  clear hb17 S14
  refine wL_val (v := .tuple #[.agg #[.int .i64 ((decM b).1.kind), .int .i64 ((decM b).1.queue), .int .i64 ((decM b).1.epoch), .int .i64 ((decM b).1.peer), .int .i64 ((decM b).1.ev.kind), .int .i64 ((decM b).1.ev.producer), .int .i64 ((decM b).1.ev.id), .int .i64 ((decM b).1.ev.body), .int .i64 ((decM b).1.ev.hepoch), .int .i64 ((decM b).1.ev.hno)], .int .i64 ((decM b).2)]) (wn rfl) rfl rfl (y_move rfl rfl) ?_
  refine wL_val (v := .agg #[.int .i64 ((decM b).1.kind), .int .i64 ((decM b).1.queue), .int .i64 ((decM b).1.epoch), .int .i64 ((decM b).1.peer), .int .i64 ((decM b).1.ev.kind), .int .i64 ((decM b).1.ev.producer), .int .i64 ((decM b).1.ev.id), .int .i64 ((decM b).1.ev.body), .int .i64 ((decM b).1.ev.hepoch), .int .i64 ((decM b).1.ev.hno)]) (wn rfl) rfl rfl (y_extract rfl rfl rfl) ?_
  refine wL_val (v := .int .i64 ((decM b).2)) (wn rfl) rfl rfl (y_extract rfl rfl rfl) ?_
  refine wL_new (V := fun b => .pointer (some ⟨b, 0, none⟩)) (row := #[.int .i64 0, .int .i64 0, .int .i64 0, .int .i64 0, .int .i64 0, .int .i64 0, .int .i64 0, .int .i64 0, .int .i64 0, .int .i64 0]) (t := 51) S16 (wn rfl) rfl rfl (d_alloc rfl (Try.zeroValue51 _) rfl) ?_
  intro b18 w19 S20
  clear S16
  refine wL_st (cs := #[.int .i64 ((decM b).1.kind), .int .i64 ((decM b).1.queue), .int .i64 ((decM b).1.epoch), .int .i64 ((decM b).1.peer), .int .i64 ((decM b).1.ev.kind), .int .i64 ((decM b).1.ev.producer), .int .i64 ((decM b).1.ev.id), .int .i64 ((decM b).1.ev.body), .int .i64 ((decM b).1.ev.hepoch), .int .i64 ((decM b).1.ev.hno)]) (row' := #[.int .i64 ((decM b).1.kind), .int .i64 ((decM b).1.queue), .int .i64 ((decM b).1.epoch), .int .i64 ((decM b).1.peer), .int .i64 ((decM b).1.ev.kind), .int .i64 ((decM b).1.ev.producer), .int .i64 ((decM b).1.ev.id), .int .i64 ((decM b).1.ev.body), .int .i64 ((decM b).1.ev.hepoch), .int .i64 ((decM b).1.ev.hno)]) (fs' := [.blk b18 #[.int .i64 ((decM b).1.kind), .int .i64 ((decM b).1.queue), .int .i64 ((decM b).1.epoch), .int .i64 ((decM b).1.peer), .int .i64 ((decM b).1.ev.kind), .int .i64 ((decM b).1.ev.producer), .int .i64 ((decM b).1.ev.id), .int .i64 ((decM b).1.ev.body), .int .i64 ((decM b).1.ev.hepoch), .int .i64 ((decM b).1.ev.hno)] 51, .blk b10 #[.int .i64 ((decM b).1.kind), .int .i64 ((decM b).1.queue), .int .i64 ((decM b).1.epoch), .int .i64 ((decM b).1.peer), .int .i64 ((decM b).1.ev.kind), .int .i64 ((decM b).1.ev.producer), .int .i64 ((decM b).1.ev.id), .int .i64 ((decM b).1.ev.body), .int .i64 ((decM b).1.ev.hepoch), .int .i64 ((decM b).1.ev.hno)] 51, .own 5 1 (.slice A1 b.length c2) b.length (byteCells b), .rd 1 A b.length (byteCells b) ]) 0 S20 (wn rfl) rfl rfl rfl rfl rfl rfl inf51 rfl (oneAll rfl) (Nat.le_of_ble_eq_true rfl) (setAll_all rfl) rfl ?_
  intro w21 S22
  clear S20
  refine wL_val (v := .int .i64 ((decM b).2)) (wn rfl) rfl rfl (y_assign rfl rfl) ?_
  refine wL_nil ?_
  refine wQ_sub (l' := [(0, .slice A b.length c), (2, .bool false), (3, .slice A1 b.length c2), (4, .pointer (some ⟨b10, 0, none⟩)), (5, .int .i64 ((decM b).2)), (6, .pointer (some ⟨b18, 0, none⟩)), (7, .int .i64 ((decM b).2))]) ⟨rfl, rfl, rfl, rfl, rfl, rfl, rfl, trivial⟩ ?_
  refine wQ_then ?_
  refine wC_seq ?_
  refine wC_region ?_
  refine wL_val (v := .agg #[.int .i64 ((decM b).1.kind), .int .i64 ((decM b).1.queue), .int .i64 ((decM b).1.epoch), .int .i64 ((decM b).1.peer), .int .i64 ((decM b).1.ev.kind), .int .i64 ((decM b).1.ev.producer), .int .i64 ((decM b).1.ev.id), .int .i64 ((decM b).1.ev.body), .int .i64 ((decM b).1.ev.hepoch), .int .i64 ((decM b).1.ev.hno)]) (wn rfl) rfl rfl (y_load rfl rfl (r_load_row 1 S22 rfl Try.underlying51 rfl inf51 rfl)) ?_
  refine wL_val (v := .agg #[.int .i64 ((decM b).1.kind), .int .i64 ((decM b).1.queue), .int .i64 ((decM b).1.epoch), .int .i64 ((decM b).1.peer), .int .i64 ((decM b).1.ev.kind), .int .i64 ((decM b).1.ev.producer), .int .i64 ((decM b).1.ev.id), .int .i64 ((decM b).1.ev.body), .int .i64 ((decM b).1.ev.hepoch), .int .i64 ((decM b).1.ev.hno)]) (wn rfl) rfl rfl (y_load rfl rfl (r_load_row 0 S22 rfl Try.underlying51 rfl inf51 rfl)) ?_
  refine wL_val (v := .bool true) (wn rfl) rfl rfl (y_binop rfl rfl rfl (r_eqg (by kernel_rfl) (run_eql_rcd (decM b).1 _))) ?_
  refine wL_val (v := .bool true) (wn rfl) rfl rfl (y_move rfl rfl) ?_
  refine wL_val (v := .int .i64 ((decM b).2)) (wg rfl rfl rfl rfl) rfl rfl (y_move rfl rfl) ?_
  refine wL_val (v := .int .i64 ((decM b).2)) (wg rfl rfl rfl rfl) rfl rfl (y_move rfl rfl) ?_
  refine wL_val (v := .bool true) (wg rfl rfl rfl rfl) rfl rfl (y_binop rfl rfl rfl (r_eql_t rfl)) ?_
  refine wL_val (v := .bool true) (wn rfl) rfl rfl (y_pick_t rfl rfl rfl) ?_
  refine wL_val (v := .bool true) (wn rfl) rfl rfl (y_move rfl rfl) ?_
  refine wL_val (v := .slice A1 b.length c2) (wg rfl rfl rfl rfl) rfl rfl (y_move rfl rfl) ?_
  refine wL_val (v := .slice A b.length c) (wg rfl rfl rfl rfl) rfl rfl (y_move rfl rfl) ?_
  refine wL_call (vs := [.slice A1 b.length c2, .slice A b.length c]) (wg rfl rfl rfl rfl) rfl rfl (e_call (vs := [.slice A1 b.length c2, .slice A b.length c]) rfl en42 ⟨rfl, rfl, trivial⟩) (sameBy_calls (St.ord 2 S22 rfl) (St.rd 3 S22 rfl)) ?_
  rintro _ w23 ⟨rfl, rfl⟩
  refine ⟨_, rfl, ?_⟩
  refine wL_val (v := .bool true) (wn rfl) rfl rfl (y_pick_t rfl rfl rfl) ?_
  refine wL_val (v := .bool true) (wn rfl) rfl rfl (y_assign rfl rfl) ?_
  refine wL_nil ?_
  refine wQ_sub (l' := [(0, .slice A b.length c), (2, .bool true), (3, .slice A1 b.length c2), (4, .pointer (some ⟨b10, 0, none⟩)), (5, .int .i64 ((decM b).2)), (6, .pointer (some ⟨b18, 0, none⟩)), (7, .int .i64 ((decM b).2))]) ⟨rfl, rfl, rfl, rfl, rfl, rfl, rfl, trivial⟩ ?_
  refine wQ_then ?_
  refine wC_ret ?_
  refine wQ_post (rs := [.tmp 2]) (vs := [.bool true]) rfl ⟨rfl, trivial⟩ ?_
  exact ⟨rfl, S22.low⟩

set_option maxRecDepth 100000 in
theorem packDecodes_walk (W : World) (args : Array Value) (h : All2 (ArgOk Try.prog W) args.toList Try.f9.params.toList) :
    Calls Try.prog 9 args W fun e W' => e = .returned (.bool true) ∧ Below W.heap.size W W' := by
  rw [Try.params9] at h
  obtain ⟨v, l1, hv, h1, h0⟩ := All2.cons_ h
  have h4 := All2.nil_ h0
  subst h4
  obtain rfl : args = #[v] := by cases args; simp_all
  obtain ⟨A, n, c, l, rfl, hr, hn, hc, hb, _⟩ := arg_bytes h1
  obtain rfl := hr.bytes_len
  exact packDecodes_calls A c l W hr hn hc (by omega)
end Go.Proofs.Ytkjlafpafmihaaa
