/- Parts of proofs: lemmas on memory, on single functions and on the plain models; no condition of their own. -/
import Derived.Test.YtkjlafpafmihaaaRows
import Derived.WalkKit
import Derived.ProofKit
import Derived.OpenShut
import Derived.SizedLaws
import Derived.WalkSpells
import Derived.WalkLawsBesides
import Derived.Handy
import Derived.Deep.QuietTactic
import Derived.BigQuiet
import Derived.Lib.Hide
import Derived.Maps.AppendAt
import Derived.Deep.AppendLies
import Derived.RegionTactic
import Derived.OwnWalk
import Derived.Laws.Tables
import Derived.Deep.MidRow
import Derived.StillTailTactics
import Derived.OrdersHeld
import Derived.Deep.RegionHeld3
import Derived.Laws.IdiomCopy
import Derived.ChangeKeysEq
import Derived.Laws.BitsAllLaws
import Derived.Deep.DeepCutAuto
import Derived.Deep.CutRange
import Derived.Test.YtkjlafpafmihaaaG411632d36699
import Derived.Test.YtkjlafpafmihaaaG48f6c12ab48d
import Derived.Test.YtkjlafpafmihaaaG4e172fb27d17
import Derived.Test.YtkjlafpafmihaaaG4eaabf97d977
import Derived.Test.YtkjlafpafmihaaaG570539d87647
import Derived.Test.YtkjlafpafmihaaaG76ddf6bdedad
import Derived.Test.YtkjlafpafmihaaaG7ff4c8feaa3c
import Derived.Test.YtkjlafpafmihaaaG809794e4b789
import Derived.Test.YtkjlafpafmihaaaG924ec51911fe
import Derived.Test.YtkjlafpafmihaaaGc8683f30ddc5
import Derived.Test.YtkjlafpafmihaaaGf03ab8b1ffd4
import Derived.Test.YtkjlafpafmihaaaGfa570c25a005
set_option linter.unusedVariables false
set_option linter.unusedSimpArgs false

namespace Go.Proofs.Ytkjlafpafmihaaa
open Go.ChangeShapes Go.WideShapes Go.RowKit

structure Msg where
  no : Int
  body : Int
  deriving DecidableEq
structure Ls where
  hep : Int
  hno : Int
  msg : Msg
  deriving DecidableEq
structure Wins where
  a : Win
  b : Win
  c : Win
  d : Win
  deriving DecidableEq
structure Qd where
  ep : Int
  nx : Int
  gv : Int
  ready : List Msg
  leases : List Ls
  ws : Wins
  deriving DecidableEq
def Msg.cells (m : Msg) : List Value := [.int .i64 m.no, .int .i64 m.body]
def Ls.cells (x : Ls) : List Value := [.int .i64 x.hep, .int .i64 x.hno, .int .i64 x.msg.no, .int .i64 x.msg.body]
def Wins.cells (x : Wins) : List Value := x.a.cells ++ (x.b.cells ++ (x.c.cells ++ x.d.cells))
def Wins.at (x : Wins) (p : Nat) : Win := if p = 0 then x.a else if p = 1 then x.b else if p = 2 then x.c else x.d
def Wins.put (x : Wins) (p : Nat) (y : Win) : Wins := if p = 0 then { x with a := y } else if p = 1 then { x with b := y } else if p = 2 then { x with c := y } else { x with d := y }
theorem Wins.len (x : Wins) : x.cells.length = 36 := rfl
theorem Win.len (x : Win) : x.cells.length = 9 := rfl
/-- A queue's cells; r, l: its two slices. -/
def qRow (e n g : Int) (r l : Value) (W : Wins) : Array Value := (.int .i64 e :: .int .i64 n :: .int .i64 g :: r :: l :: W.cells).toArray

def zeroWs : Wins := ⟨zeroWin, zeroWin, zeroWin, zeroWin⟩
section
variable {e n g : Int} {r l : Value} {W : Wins}
theorem qRow_size : (qRow e n g r l W).size = 41 := rfl
theorem qRow_g0 : (qRow e n g r l W)[0]? = some (.int .i64 e) := rfl
theorem qRow_g1 : (qRow e n g r l W)[1]? = some (.int .i64 n) := rfl
theorem qRow_g2 : (qRow e n g r l W)[2]? = some (.int .i64 g) := rfl
theorem qRow_g3 : (qRow e n g r l W)[3]? = some r := rfl
theorem qRow_g4 : (qRow e n g r l W)[4]? = some l := rfl
theorem qRow_ws : ∀ (j : Nat) (u : Value), W.cells[j]? = some u → (qRow e n g r l W)[5 + j]? = some u := sub_row (m := 36) rfl
theorem qRow_w0 : ∀ (j : Nat) (u : Value), (W.at 0).cells[j]? = some u → (qRow e n g r l W)[5 + j]? = some u := sub_row (m := 9) rfl
theorem qRow_w1 : ∀ (j : Nat) (u : Value), (W.at 1).cells[j]? = some u → (qRow e n g r l W)[14 + j]? = some u := sub_row (m := 9) rfl
theorem qRow_w2 : ∀ (j : Nat) (u : Value), (W.at 2).cells[j]? = some u → (qRow e n g r l W)[23 + j]? = some u := sub_row (m := 9) rfl
theorem qRow_w3 : ∀ (j : Nat) (u : Value), (W.at 3).cells[j]? = some u → (qRow e n g r l W)[32 + j]? = some u := sub_row (m := 9) rfl
theorem qRow_s0 {z : Int} : setAll (qRow e n g r l W) 0 [.int .i64 z] = qRow z n g r l W := rfl
theorem qRow_s1 {z : Int} : setAll (qRow e n g r l W) 1 [.int .i64 z] = qRow e z g r l W := rfl
theorem qRow_s2 {z : Int} : setAll (qRow e n g r l W) 2 [.int .i64 z] = qRow e n z r l W := rfl
theorem qRow_s3 {z : Value} : setAll (qRow e n g r l W) 3 [z] = qRow e n g z l W := rfl
theorem qRow_s4 {z : Value} : setAll (qRow e n g r l W) 4 [z] = qRow e n g r z W := rfl
theorem qRow_p0 {x : Win} : setAll (qRow e n g r l W) 5 x.cells = qRow e n g r l (W.put 0 x) := by
  apply Array.toList_inj.1
  rw [setAll_list _ _ _ (by rw [qRow_size, Win.len]; omega)]
  rfl
theorem qRow_p1 {x : Win} : setAll (qRow e n g r l W) 14 x.cells = qRow e n g r l (W.put 1 x) := by
  apply Array.toList_inj.1
  rw [setAll_list _ _ _ (by rw [qRow_size, Win.len]; omega)]
  rfl
theorem qRow_p2 {x : Win} : setAll (qRow e n g r l W) 23 x.cells = qRow e n g r l (W.put 2 x) := by
  apply Array.toList_inj.1
  rw [setAll_list _ _ _ (by rw [qRow_size, Win.len]; omega)]
  rfl
theorem qRow_p3 {x : Win} : setAll (qRow e n g r l W) 32 x.cells = qRow e n g r l (W.put 3 x) := by
  apply Array.toList_inj.1
  rw [setAll_list _ _ _ (by rw [qRow_size, Win.len]; omega)]
  rfl
theorem win_one (x : Win) : ∀ u ∈ x.cells, u.oneCell' = true := oneAll rfl
theorem wins_one (x : Wins) : ∀ u ∈ x.cells, u.oneCell' = true := oneAll rfl
theorem qRow_one (hr : r.oneCell' = true) (hl : l.oneCell' = true) : ∀ u ∈ (qRow e n g r l W).toList, u.oneCell' = true := by
  intro u hu
  simp only [qRow, List.mem_cons] at hu
  rcases hu with rfl | rfl | rfl | rfl | rfl | hu
  · rfl
  · rfl
  · rfl
  · exact hr
  · exact hl
  · exact wins_one W u hu
end
def IPost (w : World) (k : Int) (e : Ending) (w' : World) : Prop := e = .returned (.int .i64 k) ∧ Below w.heap.size w w'
def BoolB (w : World) (b : Bool) (e : Ending) (w' : World) : Prop := e = .returned (.bool b) ∧ Below w.heap.size w w'

/-- P4.1. -/
def msgOk (nx : Int) (m : Msg) : Bool := decide (0 ≤ m.no ∧ m.no < nx ∧ 0 ≤ m.body ∧ m.body ≤ 1000000)
theorem msgOk_of {nx : Int} {m : Msg} (h : msgOk nx m = true) : 0 ≤ m.no ∧ m.no < nx ∧ 0 ≤ m.body ∧ m.body ≤ 1000000 := of_decide_eq_true h
def rdyFrom (nx : Int) : Int → List Msg → Bool
  | _, [] => true
  | p, m :: r => (msgOk nx m && decide (p < m.no)) && rdyFrom nx m.no r
def lsOk (ep nx gv p : Int) (x : Ls) : Bool := msgOk nx x.msg && decide (x.hep = ep ∧ p < x.hno ∧ x.hno < gv)
def lsFrom (ep nx gv : Int) : Int → List Ls → Bool
  | _, [] => true
  | p, x :: r => lsOk ep nx gv p x && lsFrom ep nx gv x.hno r
def nosOf (rs : List Msg) (ls : List Ls) : List Int := rs.map (·.no) ++ ls.map (·.msg.no)
def rngQ (ep nx gv : Int) (rs : List Msg) (ls : List Ls) : Prop := 0 ≤ ep ∧ ep ≤ 1048576 ∧ 0 ≤ nx ∧ nx ≤ 1073741824 ∧ 0 ≤ gv ∧ gv ≤ 1073741824 ∧ rs.length + ls.length ≤ 500
def winsOk (W : Wins) : Prop := ∀ j, j < 4 → winFault (W.at j) = 0
open Classical in
noncomputable def queueFault (ep nx gv : Int) (rs : List Msg) (ls : List Ls) (W : Wins) : Int :=
  if ¬ rngQ ep nx gv rs ls then 6 else if ¬ winsOk W then 6 else if rdyFrom nx (-1) rs = true ∧ lsFrom ep nx gv (-1) ls = true ∧ (nosOf rs ls).Nodup then 0 else 6
section
variable {ep nx gv p : Int} {rs : List Msg} {ls : List Ls} {W : Wins}
theorem qf_rng (h : ¬ (0 ≤ ep ∧ ep ≤ 1048576 ∧ 0 ≤ nx ∧ nx ≤ 1073741824 ∧ 0 ≤ gv ∧ gv ≤ 1073741824 ∧ rs.length + ls.length ≤ 500)) : queueFault ep nx gv rs ls W = 6 := if_pos h
theorem qf_bad (h : ¬ (winsOk W ∧ rdyFrom nx (-1) rs = true ∧ lsFrom ep nx gv (-1) ls = true ∧ (nosOf rs ls).Nodup)) : queueFault ep nx gv rs ls W = 6 := by
  unfold queueFault
  split
  · rfl
  · split
    · rfl
    · rename_i h1 h2
      rw [if_neg (fun h3 => h ⟨Classical.not_not.1 h2, h3⟩)]
theorem qf_win {j : Nat} (hj : j < 4) (h : winFault (W.at j) ≠ 0) : queueFault ep nx gv rs ls W = 6 := qf_bad fun h1 => h (h1.1 j hj)
theorem qf_ok (h0 : rngQ ep nx gv rs ls) (h1 : winsOk W) (h2 : rdyFrom nx (-1) rs = true) (h3 : lsFrom ep nx gv (-1) ls = true) (h4 : (nosOf rs ls).Nodup) : queueFault ep nx gv rs ls W = 0 := by
  unfold queueFault
  rw [if_neg (fun h => h h0), if_neg (fun h => h h1), if_pos ⟨h2, h3, h4⟩]
theorem rdy_step {k : Nat} {m : Msg} (h : rs[k]? = some m) : rdyFrom nx p (rs.drop k) = ((msgOk nx m && decide (p < m.no)) && rdyFrom nx m.no (rs.drop (k + 1))) := by
  obtain ⟨hk, hm⟩ := List.getElem?_eq_some_iff.1 h
  rw [List.drop_eq_getElem_cons hk, hm]
  rfl
theorem ls_step {k : Nat} {x : Ls} (h : ls[k]? = some x) : lsFrom ep nx gv p (ls.drop k) = (lsOk ep nx gv p x && lsFrom ep nx gv x.hno (ls.drop (k + 1))) := by
  obtain ⟨hk, hm⟩ := List.getElem?_eq_some_iff.1 h
  rw [List.drop_eq_getElem_cons hk, hm]
  rfl
theorem take_map {α β : Type} {f : α → β} {l : List α} {k : Nat} {x : α} (h : l[k]? = some x) : (l.take k).map f ++ [f x] = (l.take (k + 1)).map f := by
  rw [List.take_add_one, h]
  simp
theorem winF_or (x : Win) : winFault x = 0 ∨ winFault x = 6 := by unfold winFault; split <;> simp
end
theorem wins_index0 (W : Wins) (w : World) : (Instr.index 27 (.agg W.cells.toArray) (.int .i64 0)).run Try.prog w = .ok (.agg (W.at 0).cells.toArray) w := by kernel_rfl
theorem wins_index1 (W : Wins) (w : World) : (Instr.index 27 (.agg W.cells.toArray) (.int .i64 1)).run Try.prog w = .ok (.agg (W.at 1).cells.toArray) w := by kernel_rfl
theorem wins_index2 (W : Wins) (w : World) : (Instr.index 27 (.agg W.cells.toArray) (.int .i64 2)).run Try.prog w = .ok (.agg (W.at 2).cells.toArray) w := by kernel_rfl
theorem wins_index3 (W : Wins) (w : World) : (Instr.index 27 (.agg W.cells.toArray) (.int .i64 3)).run Try.prog w = .ok (.agg (W.at 3).cells.toArray) w := by kernel_rfl
theorem wins_index (W : Wins) (k : Nat) (hk : k < 4) (w : World) : (Instr.index 27 (.agg W.cells.toArray) (.int .i64 k)).run Try.prog w = .ok (.agg (W.at k).cells.toArray) w := by
  have h : k = 0 ∨ k = 1 ∨ k = 2 ∨ k = 3 := by omega
  rcases h with rfl | rfl | rfl | rfl
  · exact wins_index0 W w
  · exact wins_index1 W w
  · exact wins_index2 W w
  · exact wins_index3 W w
theorem qRow_wk {e n g : Int} {r l : Value} {W : Wins} {k : Nat} (hk : k < 4) : ∀ (j : Nat) (u : Value), (W.at k).cells[j]? = some u → (qRow e n g r l W)[5 + k * 9 + j]? = some u := by
  have h : k = 0 ∨ k = 1 ∨ k = 2 ∨ k = 3 := by omega
  rcases h with rfl | rfl | rfl | rfl
  · exact qRow_w0
  · exact qRow_w1
  · exact qRow_w2
  · exact qRow_w3
def oneI (z : Int) : List Value := [.int .i64 z]
theorem fm_snoc {α : Type} {enc : α → List Value} {l l' : List α} {x : α} {cs : List Value} (h : l ++ [x] = l') (he : enc x = cs) : l.flatMap enc ++ cs = l'.flatMap enc := by
  subst h
  subst he
  simp
theorem In_t {n lo hi : Int} (h : lo ≤ n ∧ n ≤ hi) (w : World) : Calls Try.prog 107 #[.int .i64 n, .int .i64 lo, .int .i64 hi] w fun e w' => e = .returned (.bool true) ∧ w = w' := by
  have := In_calls n lo hi w
  rw [show inR n lo hi = true by simp [inR, h.1, h.2]] at this
  exact this
theorem In_f {n lo hi : Int} (h : ¬ (lo ≤ n ∧ n ≤ hi)) (w : World) : Calls Try.prog 107 #[.int .i64 n, .int .i64 lo, .int .i64 hi] w fun e w' => e = .returned (.bool false) ∧ w = w' := by
  have := In_calls n lo hi w
  rw [show inR n lo hi = false by simp [inR]; omega] at this
  exact this
theorem msgOk_yes {nx : Int} {m : Msg} (h : 0 ≤ m.no ∧ m.no < nx ∧ 0 ≤ m.body ∧ m.body ≤ 1000000) : msgOk nx m = true := decide_eq_true h
def prevNo (rs : List Msg) (k : Nat) : Int := if k = 0 then -1 else match rs[k - 1]? with | some m => m.no | none => -1
def prevH (ls : List Ls) (k : Nat) : Int := if k = 0 then -1 else match ls[k - 1]? with | some m => m.hno | none => -1
section
variable {ep nx gv p : Int} {rs : List Msg} {ls : List Ls} {k : Nat}
theorem prevNo_zero (h : ¬ (0 : Int) < ((k : Nat) : Int)) : prevNo rs k = -1 := if_pos (by omega)
theorem prevNo_pos {y : Msg} (h : (0 : Int) < ((k : Nat) : Int)) (hy : rs[k - 1]? = some y) : prevNo rs k = y.no := by unfold prevNo; rw [if_neg (by omega), hy]
theorem prevNo_succ {x : Msg} (hx : rs[k]? = some x) : prevNo rs (k + 1) = x.no := by unfold prevNo; rw [if_neg (by omega), Nat.add_sub_cancel, hx]
theorem prevH_zero (h : ¬ (0 : Int) < ((k : Nat) : Int)) : prevH ls k = -1 := if_pos (by omega)
theorem prevH_pos {y : Ls} (h : (0 : Int) < ((k : Nat) : Int)) (hy : ls[k - 1]? = some y) : prevH ls k = y.hno := by unfold prevH; rw [if_neg (by omega), hy]
theorem prevH_succ {x : Ls} (hx : ls[k]? = some x) : prevH ls (k + 1) = x.hno := by unfold prevH; rw [if_neg (by omega), Nat.add_sub_cancel, hx]
theorem rdy_no {x : Msg} (hi : rdyFrom nx (-1) rs = rdyFrom nx p (rs.drop k)) (hx : rs[k]? = some x) (h : ¬ (msgOk nx x = true ∧ p < x.no)) : rdyFrom nx (-1) rs ≠ true := by
  rw [hi, rdy_step hx]
  intro h2
  simp only [Bool.and_eq_true, decide_eq_true_eq] at h2
  exact h h2.1
theorem rdy_yes {x : Msg} (hi : rdyFrom nx (-1) rs = rdyFrom nx p (rs.drop k)) (hx : rs[k]? = some x) (h1 : msgOk nx x = true) (h2 : p < x.no) : rdyFrom nx (-1) rs = rdyFrom nx x.no (rs.drop (k + 1)) := by
  rw [hi, rdy_step hx, h1, decide_eq_true h2]
  rfl
theorem ls_no {x : Ls} (hi : lsFrom ep nx gv (-1) ls = lsFrom ep nx gv p (ls.drop k)) (hx : ls[k]? = some x) (h : ¬ (msgOk nx x.msg = true ∧ x.hep = ep ∧ p < x.hno ∧ x.hno < gv)) : lsFrom ep nx gv (-1) ls ≠ true := by
  rw [hi, ls_step hx, lsOk]
  intro h2
  simp only [Bool.and_eq_true, decide_eq_true_eq] at h2
  exact h h2.1
theorem ls_yes {x : Ls} (hi : lsFrom ep nx gv (-1) ls = lsFrom ep nx gv p (ls.drop k)) (hx : ls[k]? = some x) (h1 : msgOk nx x.msg = true) (h2 : x.hep = ep ∧ p < x.hno ∧ x.hno < gv) : lsFrom ep nx gv (-1) ls = lsFrom ep nx gv x.hno (ls.drop (k + 1)) := by
  rw [hi, ls_step hx, lsOk, h1, decide_eq_true h2]
  rfl
end
theorem nodup_of {ns : List Int} (h : ∀ (i k : Nat) (x y : Int), k < i → ns[i]? = some x → ns[k]? = some y → x ≠ y) : ns.Nodup := by
  unfold List.Nodup
  rw [List.pairwise_iff_getElem]
  intro i j hi hj hij e
  exact h j i _ _ hij (List.getElem?_eq_getElem hj) (List.getElem?_eq_getElem hi) e.symm
theorem not_nodup {ns : List Int} {i k : Nat} {x y : Int} (hk : k < i) (hx : ns[i]? = some x) (hy : ns[k]? = some y) (e : x = y) : ¬ ns.Nodup := by
  intro h
  unfold List.Nodup at h
  rw [List.pairwise_iff_getElem] at h
  obtain ⟨h1, h2⟩ := List.getElem?_eq_some_iff.1 hx
  obtain ⟨h3, h4⟩ := List.getElem?_eq_some_iff.1 hy
  exact h k i h3 h1 hk (by rw [h2, h4, e])
end Go.Proofs.Ytkjlafpafmihaaa

namespace Go.Proofs.Ytkjlafpafmihaaa
open Go.ChangeShapes Go.WideShapes Go.RowKit

structure Ans where
  code : Int
  hep : Int
  hno : Int
  body : Int
  deriving DecidableEq
def ans0 : Ans := ⟨0, 0, 0, 0⟩
def ansE (k : Int) : Ans := ⟨k, 0, 0, 0⟩
def Ans.cells (a : Ans) : List Value := [.int .i64 a.code, .int .i64 a.hep, .int .i64 a.hno, .int .i64 a.body]
def Ans.val (a : Ans) : Value := .agg #[.int .i64 a.code, .int .i64 a.hep, .int .i64 a.hno, .int .i64 a.body]
def pubM (Q : Qd) (k : Nat) (id bd : Int) : Qd × Ans × Bool :=
  if (takeW (Q.ws.at k) id).2.2 ≠ 0 then (Q, ansE (takeW (Q.ws.at k) id).2.2, false)
  else if (takeW (Q.ws.at k) id).2.1 = false then (Q, ans0, false)
  else if Q.ready.length + Q.leases.length = 500 ∨ Q.nx = 1073741824 then (Q, ansE 14, false)
  else (⟨Q.ep, Q.nx + 1, Q.gv, Q.ready ++ [⟨Q.nx, bd⟩], Q.leases, Q.ws.put k (takeW (Q.ws.at k) id).1⟩, ans0, true)
def recM (Q : Qd) : Qd × Ans × Bool := match Q.ready with
  | [] => (Q, ansE 10, false)
  | m :: rest => if Q.gv = 1073741824 then (Q, ansE 14, false) else (⟨Q.ep, Q.nx, Q.gv + 1, rest, Q.leases ++ [⟨Q.ep, Q.gv, m⟩], Q.ws⟩, ⟨0, Q.ep, Q.gv, m.body⟩, true)
def ackM (Q : Qd) (he hn : Int) : Qd × Ans × Bool :=
  if he ≠ Q.ep then (Q, ansE 11, false)
  else if (Q.leases.filter fun x => decide (x.hno ≠ hn)).length = Q.leases.length then (Q, ansE 7, false)
  else (⟨Q.ep, Q.nx, Q.gv, Q.ready, Q.leases.filter fun x => decide (x.hno ≠ hn), Q.ws⟩, ans0, true)
/-- A message laid ahead of the first with a larger number. -/
def putMsg (m : Msg) : List Msg → List Msg
  | [] => [m]
  | x :: l => if m.no < x.no then m :: x :: l else x :: putMsg m l
def endM (Q : Qd) : Qd × Ans × Bool :=
  if Q.ep = 1048576 then (Q, ansE 14, false)
  else (⟨Q.ep + 1, Q.nx, 0, Q.leases.foldl (fun l x => putMsg x.msg l) Q.ready, [], Q.ws⟩, ans0, true)
section
variable {ep nx gv bd id he hn : Int} {rs : List Msg} {ls : List Ls} {W : Wins} {k : Nat}
theorem pub_err (h : ¬ (takeW (W.at k) id).2.2 = 0) : pubM ⟨ep, nx, gv, rs, ls, W⟩ k id bd = (⟨ep, nx, gv, rs, ls, W⟩, ansE (takeW (W.at k) id).2.2, false) := if_pos h
theorem pub_old (h : (takeW (W.at k) id).2.2 = 0) (h1 : (takeW (W.at k) id).2.1 = false) : pubM ⟨ep, nx, gv, rs, ls, W⟩ k id bd = (⟨ep, nx, gv, rs, ls, W⟩, ans0, false) := by
  unfold pubM; rw [if_neg (fun h2 => h2 h), if_pos h1]
theorem pub_full (h : (takeW (W.at k) id).2.2 = 0) (h1 : (takeW (W.at k) id).2.1 = true) (h2 : rs.length + ls.length = 500 ∨ nx = 1073741824) : pubM ⟨ep, nx, gv, rs, ls, W⟩ k id bd = (⟨ep, nx, gv, rs, ls, W⟩, ansE 14, false) := by
  unfold pubM; rw [if_neg (fun h2 => h2 h), if_neg (fun h3 => by rw [h1] at h3; cases h3), if_pos h2]
theorem pub_ok (h : (takeW (W.at k) id).2.2 = 0) (h1 : (takeW (W.at k) id).2.1 = true) (h2 : ¬ (rs.length + ls.length = 500 ∨ nx = 1073741824)) : pubM ⟨ep, nx, gv, rs, ls, W⟩ k id bd = (⟨ep, nx + 1, gv, rs ++ [⟨nx, bd⟩], ls, W.put k (takeW (W.at k) id).1⟩, ans0, true) := by
  unfold pubM; rw [if_neg (fun h2 => h2 h), if_neg (fun h3 => by rw [h1] at h3; cases h3), if_neg h2]
theorem rec_none (h : rs.length = 0) : recM ⟨ep, nx, gv, rs, ls, W⟩ = (⟨ep, nx, gv, rs, ls, W⟩, ansE 10, false) := by
  cases rs with
  | nil => rfl
  | cons m r => simp at h
theorem rec_full (h : ¬ rs.length = 0) (h1 : gv = 1073741824) : recM ⟨ep, nx, gv, rs, ls, W⟩ = (⟨ep, nx, gv, rs, ls, W⟩, ansE 14, false) := by
  cases rs with
  | nil => simp at h
  | cons m r => exact if_pos h1
theorem rec_ok {m : Msg} (h : rs[0]? = some m) (h1 : ¬ gv = 1073741824) : recM ⟨ep, nx, gv, rs, ls, W⟩ = (⟨ep, nx, gv + 1, rs.drop 1, ls ++ [⟨ep, gv, m⟩], W⟩, ⟨0, ep, gv, m.body⟩, true) := by
  cases rs with
  | nil => simp at h
  | cons m r =>
    simp at h
    subst h
    exact if_neg h1
theorem ack_stale (h : ¬ he = ep) : ackM ⟨ep, nx, gv, rs, ls, W⟩ he hn = (⟨ep, nx, gv, rs, ls, W⟩, ansE 11, false) := if_pos h
theorem ack_none (h : he = ep) (h1 : (ls.filter fun x => decide (x.hno ≠ hn)).length = ls.length) : ackM ⟨ep, nx, gv, rs, ls, W⟩ he hn = (⟨ep, nx, gv, rs, ls, W⟩, ansE 7, false) := by
  unfold ackM; rw [if_neg (fun h2 => h2 h), if_pos h1]
theorem ack_ok (h : he = ep) (h1 : ¬ (ls.filter fun x => decide (x.hno ≠ hn)).length = ls.length) : ackM ⟨ep, nx, gv, rs, ls, W⟩ he hn = (⟨ep, nx, gv, rs, ls.filter fun x => decide (x.hno ≠ hn), W⟩, ans0, true) := by
  unfold ackM; rw [if_neg (fun h2 => h2 h), if_neg h1]
theorem end_full (h : ep = 1048576) : endM ⟨ep, nx, gv, rs, ls, W⟩ = (⟨ep, nx, gv, rs, ls, W⟩, ansE 14, false) := if_pos h
theorem end_ok (h : ¬ ep = 1048576) : endM ⟨ep, nx, gv, rs, ls, W⟩ = (⟨ep + 1, nx, 0, ls.foldl (fun l x => putMsg x.msg l) rs, [], W⟩, ans0, true) := if_neg h
end
theorem qRow_pk {e n g : Int} {r l : Value} {W : Wins} {x : Win} {k : Nat} (hk : k < 4) : setAll (qRow e n g r l W) (5 + k * 9) x.cells = qRow e n g r l (W.put k x) := by
  match k, hk with
  | 0, _ => exact qRow_p0
  | 1, _ => exact qRow_p1
  | 2, _ => exact qRow_p2
  | 3, _ => exact qRow_p3
/-- How a method of the desk ends. -/
def DeskPost (B : Nat) (w0 : World) (g : Nat) (fs : List Fact) (r : Qd × Ans × Bool) (e : Ending) (w' : World) : Prop :=
  e = .returned (.tuple #[r.2.1.val, .bool r.2.2]) ∧ ∃ A1 c1 A2 c2, St B w0 w' (.blk g (qRow r.1.ep r.1.nx r.1.gv (.slice A1 r.1.ready.length c1) (.slice A2 r.1.leases.length c2) r.1.ws) 190 :: .rdo 2 A1 r.1.ready.length (r.1.ready.flatMap Msg.cells) :: .rdo 4 A2 r.1.leases.length (r.1.leases.flatMap Ls.cells) :: fs)
end Go.Proofs.Ytkjlafpafmihaaa

namespace Go.Proofs.Ytkjlafpafmihaaa
open Go.ChangeShapes Go.WideShapes Go.RowKit

instance : IntRec Msg where
  size := 2
  ints m := [m.no, m.body]
  of xs := ⟨xs.getD 0 0, xs.getD 1 0⟩
  pos := by decide
  len _ := rfl
  inv xs h := by
    match xs, h with
    | [a, b], _ => rfl
instance : IntRec Ls where
  size := 4
  ints m := [m.hep, m.hno, m.msg.no, m.msg.body]
  of xs := ⟨xs.getD 0 0, xs.getD 1 0, ⟨xs.getD 2 0, xs.getD 3 0⟩⟩
  pos := by decide
  len _ := rfl
  inv xs h := by
    match xs, h with
    | [a, b, c, d], _ => rfl
theorem msgs_one (l : List Msg) : ∀ u ∈ l.flatMap Msg.cells, u.oneCell' = true := recCells_one l
theorem lss_one (l : List Ls) : ∀ u ∈ l.flatMap Ls.cells, u.oneCell' = true := recCells_one l
end Go.Proofs.Ytkjlafpafmihaaa

namespace Go.Proofs.Ytkjlafpafmihaaa
open Go.ChangeShapes Go.WideShapes Go.RowKit

section
variable {P : Program} {w : World} {t e : TypeId} {xo yo : Operand}
theorem r_slnil {A : Option Addr} {n c : Nat} (h : P.underlying t = some (.slice e)) : (do eqGuard .eql t xo yo (.slice A n c) (.slice none 0 0); binOp .eql t (.slice A n c) (.slice none 0 0) : Sem Value).run P w = .ok (.bool A.isNone) w := by
  rw [Sem.run_bind, show (eqGuard .eql t xo yo (.slice A n c) (.slice none 0 0)).run P w = .ok () w from rfl]
  exact Lib.run_eql_slice_nil w t e A n c 0 0 h
end
theorem rd_none {w : World} {B s n : Nat} {xs : List Value} (h : Rd w B s none n xs) : n = 0 ∧ xs = [] := by
  have h1 : n = 0 := by
    rcases Nat.eq_zero_or_pos n with h0 | h0
    · exact h0
    · obtain ⟨b, off, e, _⟩ := h.2 h0
      cases e
  subst h1
  exact ⟨rfl, List.eq_nil_of_length_eq_zero (by have := h.1; omega)⟩

set_option maxRecDepth 100000 in
set_option maxHeartbeats 1000000 in
theorem CloneM_calls (A : Option Addr) (n c : Nat) (l : List Value) (w : World) (h : Rd w w.heap.size 2 A n l) (hone : ∀ u ∈ l, u.oneCell' = true) (hc : n * 16 ≤ reachBytes) :
    Calls Try.prog 143 #[.slice A n c] w (OwnPost w 137 2 n l) := by
 unfold reachBytes at hc
 have S := (St.start w).addRd h
 refine fnw 8 Try.func143 ?_
 refine cw [0] ?_
 refine x_sr (va ?_)
 refine wL_nil (wQ_then (wC_seq (wC_seq (wC_region (vm ?_)))))
 cases A with
 | none =>
  obtain ⟨rfl, rfl⟩ := rd_none h
  refine vv (v := .bool true) (y_binop rfl rfl rfl (r_slnil Try.underlying22)) ?_
  refine qk [0, 2, 4] ?_
  refine x_tysr (va ?_)
  refine qk [2] ?_
  refine x_teh (pt ?_)
  exact OwnPost.of (Below.refl _ _) (ownsRow_nil_ _ _ _ _)
 | some a =>
  refine vv (v := .bool false) (y_binop rfl rfl rfl (r_slnil Try.underlying22)) ?_
  refine qk [0, 2, 4] ?_
  refine x_tnktsr (wL_newOwn (V := fun b => .slice (some ⟨b, 0, none⟩) 0 0) (row := #[]) (t := 137) (n := 0) (s := 2) (xs := []) S (wn rfl) rfl rfl (d_buildSlice (vs := []) rfl trivial (by kernel_rfl)) (by simp) (Nat.zero_le _) rfl ?_); intro b1 w2 S3; clear S
  refine vm ?_
  refine wL_append (news := l) (xs' := l) 0 S3 (wn rfl) rfl rfl rfl rfl rfl rfl (St.rd 1 S3 rfl) Try.underlying22 infz137 rfl (by decide) hone (by simp only [maxLen]; omega) (by omega) rfl ?_; intro A4 c5 w6 hc8 hm9 S7; clear S3
  change St _ _ _ [.own 137 2 (.slice A4 (0 + n) c5) (0 + n) l, _] at S7
  refine va ?_
  refine qk [2] ?_
  refine x_te (pt ?_)
  have S10 : St _ _ _ [_] := S7.dels [1]; clear S7
  have ho := S10.own 0 rfl
  simp only [Nat.zero_add] at ho ⊢
  exact OwnPost.of S10.low ho

set_option maxRecDepth 100000 in
set_option maxHeartbeats 1000000 in
theorem CloneL_calls (A : Option Addr) (n c : Nat) (l : List Value) (w : World) (h : Rd w w.heap.size 4 A n l) (hone : ∀ u ∈ l, u.oneCell' = true) (hc : n * 32 ≤ reachBytes) :
    Calls Try.prog 144 #[.slice A n c] w (OwnPost w 141 4 n l) := by
 unfold reachBytes at hc
 have S := (St.start w).addRd h
 refine fnw 8 Try.func144 ?_
 refine cw [0] ?_
 refine x_sr (va ?_)
 refine wL_nil (wQ_then (wC_seq (wC_seq (wC_region (vm ?_)))))
 cases A with
 | none =>
  obtain ⟨rfl, rfl⟩ := rd_none h
  refine vv (v := .bool true) (y_binop rfl rfl rfl (r_slnil Try.underlying23)) ?_
  refine qk [0, 2, 4] ?_
  refine x_tysr (va ?_)
  refine qk [2] ?_
  refine x_teh (pt ?_)
  exact OwnPost.of (Below.refl _ _) (ownsRow_nil_ _ _ _ _)
 | some a =>
  refine vv (v := .bool false) (y_binop rfl rfl rfl (r_slnil Try.underlying23)) ?_
  refine qk [0, 2, 4] ?_
  refine x_tnktsr (wL_newOwn (V := fun b => .slice (some ⟨b, 0, none⟩) 0 0) (row := #[]) (t := 141) (n := 0) (s := 4) (xs := []) S (wn rfl) rfl rfl (d_buildSlice (vs := []) rfl trivial (by kernel_rfl)) (by simp) (Nat.zero_le _) rfl ?_); intro b1 w2 S3; clear S
  refine vm ?_
  refine wL_append (news := l) (xs' := l) 0 S3 (wn rfl) rfl rfl rfl rfl rfl rfl (St.rd 1 S3 rfl) Try.underlying23 infz141 rfl (by decide) hone (by simp only [maxLen]; omega) (by omega) rfl ?_; intro A4 c5 w6 hc8 hm9 S7; clear S3
  change St _ _ _ [.own 141 4 (.slice A4 (0 + n) c5) (0 + n) l, _] at S7
  refine va ?_
  refine qk [2] ?_
  refine x_te (pt ?_)
  have S10 : St _ _ _ [_] := S7.dels [1]; clear S7
  have ho := S10.own 0 rfl
  simp only [Nat.zero_add] at ho ⊢
  exact OwnPost.of S10.low ho
end Go.Proofs.Ytkjlafpafmihaaa

namespace Go.Proofs.Ytkjlafpafmihaaa
open Go.ChangeShapes Go.WideShapes Go.RowKit




set_option maxRecDepth 100000 in
set_option maxHeartbeats 1000000 in
theorem message_calls (e nx g : Int) (r l : Value) (W : Wins) (m : Msg) (w : World) :
    Calls Try.prog 105 #[.agg (qRow e nx g (r) (l) W), .agg #[.int .i64 m.no, .int .i64 m.body]] w (BoolB w (msgOk nx m)) := by
  have S := St.start w
  refine fnw 25 Try.func105 ?_
  refine wC_sub (l' := [(0, .agg (qRow e nx g (r) (l) W)), (1, .agg #[.int .i64 m.no, .int .i64 m.body])]) ⟨rfl, rfl, trivial⟩ ?_
  refine wC_seq ?_
  refine wC_region ?_
  refine wL_new (V := fun b => .pointer (some ⟨b, 0, none⟩)) (row := qRow e nx g (r) (l) W) S (wn rfl) rfl rfl (d_box rfl rfl rfl) ?_
  intro b1 w2 S3
  refine wL_new (V := fun b => .pointer (some ⟨b, 0, none⟩)) (row := #[.int .i64 m.no, .int .i64 m.body]) S3 (wn rfl) rfl rfl (d_box rfl rfl rfl) ?_
  intro b4 w5 S6
  refine vv (v := .bool false) ya ?_
  refine wL_nil ?_
  refine wQ_then ?_
  refine wC_seq ?_
  refine wC_region ?_
  refine vv (yfa 0 fa137_0) ?_
  refine vv (v := .int .i64 m.no) (ylc 0 S6 Try.underlying3) ?_
  by_cases h7 : 0 ≤ m.no
  · refine vv (ygeqT h7) ?_
    refine vv (v := .bool true) ym ?_
    refine vg (yfa 0 fa137_0) ?_
    refine vg (v := .int .i64 m.no) (ylc 0 S6 Try.underlying3) ?_
    refine vg (yfa 1 fa29_1) ?_
    refine vg (v := .int .i64 nx) (y_load rfl rfl (r_load Try.underlying3 rfl (St.cl 1 S6 rfl qRow_g1))) ?_
    by_cases h8 : m.no < nx
    · refine vg (ylssT h8) ?_
      refine vv (v := .bool true) ypT ?_
      refine vv (v := .bool true) ym ?_
      refine vg (yfa 1 fa137_1) ?_
      refine vg (v := .int .i64 m.body) (ylc 0 S6 Try.underlying3) ?_
      by_cases h9 : 0 ≤ m.body
      · refine vg (ygeqT h9) ?_
        refine vv (v := .bool true) ypT ?_
        refine vv (v := .bool true) ym ?_
        refine vg (yfa 1 fa137_1) ?_
        refine vg (v := .int .i64 m.body) (ylc 0 S6 Try.underlying3) ?_
        by_cases h10 : m.body ≤ 1000000
        · refine vg (yleqT h10) ?_
          refine vv (v := .bool true) ypT ?_
          refine vv (v := .bool true) ya ?_
          refine wL_nil ?_
          refine wQ_sub (l' := [(0, .agg (qRow e nx g (r) (l) W)), (1, .agg #[.int .i64 m.no, .int .i64 m.body]), (2, .pointer (some ⟨b1, 0, none⟩)), (3, .pointer (some ⟨b4, 0, none⟩)), (4, .bool true)]) ⟨rfl, rfl, rfl, rfl, rfl, trivial⟩ ?_
          refine wQ_then ?_
          refine wC_ret ?_
          refine pt ?_
          refine ⟨?_, S6.low⟩
          rw [show msgOk nx m = true from decide_eq_true ⟨‹_›, ‹_›, ‹_›, ‹_›⟩]
          rfl
        · refine vg (yleqF h10) ?_
          refine vv (v := .bool false) ypT ?_
          refine vv (v := .bool false) ya ?_
          refine wL_nil ?_
          refine wQ_sub (l' := [(0, .agg (qRow e nx g (r) (l) W)), (1, .agg #[.int .i64 m.no, .int .i64 m.body]), (2, .pointer (some ⟨b1, 0, none⟩)), (3, .pointer (some ⟨b4, 0, none⟩)), (4, .bool false)]) ⟨rfl, rfl, rfl, rfl, rfl, trivial⟩ ?_
          refine wQ_then ?_
          refine wC_ret ?_
          refine pt ?_
          refine ⟨?_, S6.low⟩
          rw [show msgOk nx m = false from decide_eq_false (fun h => absurd h.2.2.2 ‹_›)]
          rfl
      · refine vg (ygeqF h9) ?_
        refine vv (v := .bool false) ypT ?_
        refine vv (v := .bool false) ym ?_
        iterate 3 refine vs ?_
        refine vv (v := .bool false) ypF ?_
        refine vv (v := .bool false) ya ?_
        refine wL_nil ?_
        refine wQ_sub (l' := [(0, .agg (qRow e nx g (r) (l) W)), (1, .agg #[.int .i64 m.no, .int .i64 m.body]), (2, .pointer (some ⟨b1, 0, none⟩)), (3, .pointer (some ⟨b4, 0, none⟩)), (4, .bool false)]) ⟨rfl, rfl, rfl, rfl, rfl, trivial⟩ ?_
        refine wQ_then ?_
        refine wC_ret ?_
        refine pt ?_
        refine ⟨?_, S6.low⟩
        rw [show msgOk nx m = false from decide_eq_false (fun h => absurd h.2.2.1 ‹_›)]
        rfl
    · refine vg (ylssF h8) ?_
      refine vv (v := .bool false) ypT ?_
      refine vv (v := .bool false) ym ?_
      iterate 3 refine vs ?_
      refine vv (v := .bool false) ypF ?_
      refine vv (v := .bool false) ym ?_
      iterate 3 refine vs ?_
      refine vv (v := .bool false) ypF ?_
      refine vv (v := .bool false) ya ?_
      refine wL_nil ?_
      refine wQ_sub (l' := [(0, .agg (qRow e nx g (r) (l) W)), (1, .agg #[.int .i64 m.no, .int .i64 m.body]), (2, .pointer (some ⟨b1, 0, none⟩)), (3, .pointer (some ⟨b4, 0, none⟩)), (4, .bool false)]) ⟨rfl, rfl, rfl, rfl, rfl, trivial⟩ ?_
      refine wQ_then ?_
      refine wC_ret ?_
      refine pt ?_
      refine ⟨?_, S6.low⟩
      rw [show msgOk nx m = false from decide_eq_false (fun h => absurd h.2.1 ‹_›)]
      rfl
  · refine vv (ygeqF h7) ?_
    refine vv (v := .bool false) ym ?_
    iterate 5 refine vs ?_
    refine vv (v := .bool false) ypF ?_
    refine vv (v := .bool false) ym ?_
    iterate 3 refine vs ?_
    refine vv (v := .bool false) ypF ?_
    refine vv (v := .bool false) ym ?_
    iterate 3 refine vs ?_
    refine vv (v := .bool false) ypF ?_
    refine vv (v := .bool false) ya ?_
    refine wL_nil ?_
    refine wQ_sub (l' := [(0, .agg (qRow e nx g (r) (l) W)), (1, .agg #[.int .i64 m.no, .int .i64 m.body]), (2, .pointer (some ⟨b1, 0, none⟩)), (3, .pointer (some ⟨b4, 0, none⟩)), (4, .bool false)]) ⟨rfl, rfl, rfl, rfl, rfl, trivial⟩ ?_
    refine wQ_then ?_
    refine wC_ret ?_
    refine pt ?_
    refine ⟨?_, S6.low⟩
    rw [show msgOk nx m = false from decide_eq_false (fun h => absurd h.1 ‹_›)]
    rfl
end Go.Proofs.Ytkjlafpafmihaaa

namespace Go.Proofs.Ytkjlafpafmihaaa
open Go.ChangeShapes Go.WideShapes Go.RowKit

set_option maxRecDepth 100000 in
set_option maxHeartbeats 2000000 in
theorem publish_calls {B g k c1 c2 : Nat} {w0 w : World} {fs : List Fact} {A1 A2 : Option Addr} {rs : List Msg} {ls : List Ls} {W : Wins} {ep nx gv kd id bd he hn : Int} (S : St B w0 w (.blk g (qRow ep nx gv (.slice A1 rs.length c1) (.slice A2 ls.length c2) W) 190 :: .own 137 2 (.slice A1 rs.length c1) rs.length ((rs).flatMap Msg.cells) :: .own 141 4 (.slice A2 ls.length c2) ls.length ((ls).flatMap Ls.cells) :: fs)) (hk : k < 4) (hlen : rs.length + ls.length ≤ 500) (hnx : 0 ≤ nx ∧ nx ≤ 1073741824) (hgv : 0 ≤ gv ∧ gv ≤ 1073741824) (hep : 0 ≤ ep ∧ ep ≤ 1048576) :
    Calls Try.prog 145 #[.pointer (some ⟨g, 0, none⟩), .agg #[.int .i64 kd, .int .i64 ((k : Nat) : Int), .int .i64 id, .int .i64 bd, .int .i64 he, .int .i64 hn]] w (DeskPost B w0 g fs (pubM ⟨ep, nx, gv, rs, ls, W⟩ k id bd)) := by
 refine calls_of_wC (N := 94) (vs := [.pointer (some ⟨g, 0, none⟩), .agg #[.int .i64 kd, .int .i64 ((k : Nat) : Int), .int .i64 id, .int .i64 bd, .int .i64 he, .int .i64 hn]]) Try.func145 rfl rfl rfl ?_
 refine cw [0, 1] ?_
 refine x_sr (nb (row := #[.int .i64 kd, .int .i64 ((k : Nat) : Int), .int .i64 id, .int .i64 bd, .int .i64 he, .int .i64 hn]) S ?_); intro b1 w2 S3; clear S
 refine na (row := #[.int .i64 0, .int .i64 0, .int .i64 0, .int .i64 0]) S3 Try.zeroValue93 ?_; intro b4 w5 S6; clear S3
 refine va ?_
 refine qk [0, 3, 4, 5] ?_
 refine wQ_then (wC_cut (X := Nat) (fun xv => [(0, .pointer (some ⟨g, 0, none⟩)), (3, .pointer (some ⟨b1, 0, none⟩)), (4, .pointer (some ⟨b4, 0, none⟩)), (5, .bool false), (6, .pointer (some ⟨xv, 0, none⟩)), (7, .bool ((takeW (W.at k) id).2.1)), (8, .int .i64 ((takeW (W.at k) id).2.2))]) (fun xv wr => St B w0 wr ((.blk xv (((takeW (W.at k) id).1.cells).toArray) 26) :: (.blk b4 #[.int .i64 0, .int .i64 0, .int .i64 0, .int .i64 0] 93) :: (.blk b1 #[.int .i64 kd, .int .i64 ((k : Nat) : Int), .int .i64 id, .int .i64 bd, .int .i64 he, .int .i64 hn] 37) :: (.blk g (qRow ep nx gv (.slice A1 rs.length c1) (.slice A2 ls.length c2) W) 190) :: (.own 137 2 (.slice A1 rs.length c1) rs.length ((rs).flatMap Msg.cells)) :: (.own 141 4 (.slice A2 ls.length c2) ls.length ((ls).flatMap Ls.cells)) :: fs)) ?_ ?_)
 ·have S7 := S6.drew; clear S6
  refine wC_any_ (C := fun w' => St B w0 w' ((.blk b4 #[.int .i64 0, .int .i64 0, .int .i64 0, .int .i64 0] 93) :: (.blk b1 #[.int .i64 kd, .int .i64 ((k : Nat) : Int), .int .i64 id, .int .i64 bd, .int .i64 he, .int .i64 hn] 37) :: (.blk g (qRow ep nx gv (.slice A1 rs.length c1) (.slice A2 ls.length c2) W) 190) :: (.own 137 2 (.slice A1 rs.length c1) rs.length ((rs).flatMap Msg.cells)) :: (.own 141 4 (.slice A2 ls.length c2) ls.length ((ls).flatMap Ls.cells)) :: fs)) (n := 19) (listed := #[false, false, false, false, false, false, false, false, false, false, false, false, false, false, false, false, false, false, false]) mixed rfl rfl ?_
  refine ak (v := .pointer (some ⟨g, 0, none⟩)) 0 rfl S7 (fun _ _ => ym) ?_
  refine ak (v := .pointer (some ⟨b1, 1, none⟩)) 1 rfl S7 (fun _ _ => yfa _ fa37_1) ?_
  refine ak (v := .int .i64 ((k : Nat) : Int)) 2 rfl S7 (fun _ Sx10 => ylc 1 Sx10 Try.underlying3) ?_
  refine ak (v := .pointer (some ⟨g, 0, none⟩)) 3 rfl S7 (fun _ _ => y_nil rfl rfl trivial) ?_
  refine ak (v := .pointer (some ⟨g, 0, none⟩)) 4 rfl S7 (fun _ _ => yfa _ fa190_0) ?_
  refine ak (v := .pointer (some ⟨g, 5, none⟩)) 5 rfl S7 (fun _ _ => yfa _ fa29_5) ?_
  refine ak (v := .pointer (some ⟨g, 5 + k * 9, none⟩)) 6 rfl S7 (fun _ _ => (y_indexAddr rfl rfl rfl (r_indexArr k Try.underlying27 inf26 rfl hk))) ?_
  refine ak (v := .agg (((W.at k).cells).toArray)) 7 rfl S7 (fun _ Sx15 => (y_load rfl rfl (r_load_agg (cs := (W.at k).cells) Try.underlying26 rfl inf26 rfl (St.rg 2 Sx15 rfl (qRow_wk hk))))) ?_
  refine ak (v := .pointer (some ⟨b1, 2, none⟩)) 8 rfl S7 (fun _ _ => yfa _ fa37_2) ?_
  refine ak (v := .int .i64 id) 9 rfl S7 (fun _ Sx17 => ylc 1 Sx17 Try.underlying3) ?_
  refine wA_two (n := 8) (r := 10) (s := 15) (by kernel_rfl) ?_ ?_
  ·refine caln 10 rfl en174 (WTake_calls (W.at k) id _) ?_
   rintro _ w18 ⟨rfl, hb20⟩
   refine ⟨_, rfl, ?_⟩
   have S19 := S7.on hb20; clear hb20 S7
   refine ⟨S19, ?_⟩
   refine ak (v := .tuple #[.agg (((takeW (W.at k) id).1.cells).toArray), .bool ((takeW (W.at k) id).2.1), .int .i64 ((takeW (W.at k) id).2.2)]) 11 rfl S19 (fun _ _ => ym) ?_
   refine ak (v := .agg (((takeW (W.at k) id).1.cells).toArray)) 12 rfl S19 (fun _ _ => yx) ?_
   refine ak (v := .bool ((takeW (W.at k) id).2.1)) 13 rfl S19 (fun _ _ => yx) ?_
   refine ak (v := .int .i64 ((takeW (W.at k) id).2.2)) 14 rfl S19 (fun _ _ => yx) ?_
   refine aq1 15 ?_
   refine nna (row := #[.int .i64 0, .bool false, .bool false, .bool false, .bool false, .bool false, .bool false, .bool false, .bool false]) 15 rfl S19 Try.zeroValue26 ?_; intro b25 w26 S27; clear S19
   refine ⟨(St.del 0 S27), ?_⟩
   refine aq1 16 ?_
   refine wN_st (i := 16) rfl rfl (fs' := (_ :: _ :: _ :: _ :: _ :: _ :: fs)) 0 S27 (wn rfl) rfl rfl rfl rfl rfl rfl inf26 rfl (win_one _) (Nat.le_of_ble_eq_true rfl) (setAll_all rfl) rfl ?_; intro w28 S29; clear S27
   refine ⟨(St.del 0 S29), ?_⟩
   refine ak (v := .bool ((takeW (W.at k) id).2.1)) 17 rfl (St.del 0 S29) (fun _ _ => ya) ?_
   refine ak (v := .int .i64 ((takeW (W.at k) id).2.2)) 18 rfl (St.del 0 S29) (fun _ _ => ya) ?_
   refine wA_done (by kernel_rfl) ?_
   refine pk [0, 3, 4, 5, 6, 7, 8] ?_
   refine wQ_cut b25 ?_ ⟨rfl, rfl, rfl, rfl, rfl, rfl, rfl, trivial⟩
   exact S29
  ·refine nna (row := #[.int .i64 0, .bool false, .bool false, .bool false, .bool false, .bool false, .bool false, .bool false, .bool false]) 15 rfl S7 Try.zeroValue26 ?_; intro b32 w33 S34; clear S7
   refine ⟨(St.del 0 S34), ?_⟩
   refine aq1 10 ?_
   refine caln 10 rfl en174 (WTake_calls (W.at k) id _) ?_
   rintro _ w35 ⟨rfl, hb37⟩
   refine ⟨_, rfl, ?_⟩
   have S36 := S34.on hb37; clear hb37 S34
   refine ⟨(St.del 0 S36), ?_⟩
   refine ak (v := .tuple #[.agg (((takeW (W.at k) id).1.cells).toArray), .bool ((takeW (W.at k) id).2.1), .int .i64 ((takeW (W.at k) id).2.2)]) 11 rfl (St.del 0 S36) (fun _ _ => ym) ?_
   refine ak (v := .agg (((takeW (W.at k) id).1.cells).toArray)) 12 rfl (St.del 0 S36) (fun _ _ => yx) ?_
   refine ak (v := .bool ((takeW (W.at k) id).2.1)) 13 rfl (St.del 0 S36) (fun _ _ => yx) ?_
   refine ak (v := .int .i64 ((takeW (W.at k) id).2.2)) 14 rfl (St.del 0 S36) (fun _ _ => yx) ?_
   refine aq1 16 ?_
   refine wN_st (i := 16) rfl rfl (fs' := (_ :: _ :: _ :: _ :: _ :: _ :: fs)) 0 S36 (wn rfl) rfl rfl rfl rfl rfl rfl inf26 rfl (win_one _) (Nat.le_of_ble_eq_true rfl) (setAll_all rfl) rfl ?_; intro w42 S43; clear S36
   refine ⟨(St.del 0 S43), ?_⟩
   refine ak (v := .bool ((takeW (W.at k) id).2.1)) 17 rfl (St.del 0 S43) (fun _ _ => ya) ?_
   refine ak (v := .int .i64 ((takeW (W.at k) id).2.2)) 18 rfl (St.del 0 S43) (fun _ _ => ya) ?_
   refine wA_done (by kernel_rfl) ?_
   refine pk [0, 3, 4, 5, 6, 7, 8] ?_
   refine wQ_cut b32 ?_ ⟨rfl, rfl, rfl, rfl, rfl, rfl, rfl, trivial⟩
   exact S43
 ·rintro b46 w47 S48
  try dsimp only at S48; clear S6
  refine cw [0, 3, 4, 5, 6, 7, 8] ?_
  refine wC_seq (wC_block (wC_seq (wC_region (vm ?_))))
  by_cases h1 : (takeW (W.at k) id).2.2 = 0
  ·refine vv (yneqF h1) ?_
   refine va ?_
   refine qk [0, 3, 4, 5, 6, 7, 8, 24] ?_
   refine x_tnsr (vm ?_)
   cases h2 : (takeW (W.at k) id).2.1
   ·refine vv (v := .bool true) yno ?_
    refine va ?_
    refine qk [0, 3, 4, 5, 6, 29] ?_
    refine x_tysr (vv (v := .agg #[.int .i64 0, .int .i64 0, .int .i64 0, .int .i64 0]) yz ?_)
    refine sa 1 S48 inf93 ?_; intro w49 S50; clear S48
    refine va ?_
    refine qk [4, 5] ?_
    refine x_tech (pc 1 S50 Try.underlying93 inf93 ?_)
    have S51 : St B w0 w49 (_ :: _ :: _ :: fs) := (St.del 0 (St.del 1 (St.del 2 S50))); clear S50
    have S52 := S51.sealAll 1 rfl; clear S51
    change St _ _ _ (_ :: (.rdo 2 A1 rs.length ((rs).flatMap Msg.cells)) :: _ :: fs) at S52
    have S53 := S52.sealAll 2 rfl; clear S52
    change St _ _ _ (_ :: _ :: (.rdo 4 A2 ls.length ((ls).flatMap Ls.cells)) :: fs) at S53
    rw [pub_old h1 h2]
    refine ⟨rfl, A1, c1, A2, c2, ?_⟩
    dsimp only
    exact S53
   ·refine vv (v := .bool false) yno ?_
    refine va ?_
    refine qk [0, 3, 4, 5, 6, 29] ?_
    refine wQ_then (wC_cond_f rfl (wC_seq (wC_quiet S48 mixed (by kernel_rfl) ?_)))
    refine uv (v := .pointer (some ⟨g, 0, none⟩)) (fun _ _ => ym) ?_
    refine uv (v := .pointer (some ⟨g, 0, none⟩)) (fun _ _ => y_nil rfl rfl trivial) ?_
    refine uv (v := .pointer (some ⟨g, 0, none⟩)) (fun _ _ => yfa _ fa190_0) ?_
    refine uv (v := .pointer (some ⟨g, 3, none⟩)) (fun _ _ => yfa _ fa29_3) ?_
    refine uv (v := .slice A1 rs.length c1) (fun _ Sx58 => (y_load rfl rfl (r_load Try.underlying22 rfl (St.cl 3 Sx58 rfl qRow_g3)))) ?_
    refine uv (v := .int .i64 ((rs.length : Nat) : Int)) (fun _ _ => (y_builtin (vs := [.slice A1 rs.length c1]) rfl ⟨rfl, trivial⟩ fun _ => r_len rfl Try.underlying22)) ?_
    refine uv (v := .pointer (some ⟨g, 0, none⟩)) (fun _ _ => ym) ?_
    refine uv (v := .pointer (some ⟨g, 0, none⟩)) (fun _ _ => y_nil rfl rfl trivial) ?_
    refine uv (v := .pointer (some ⟨g, 0, none⟩)) (fun _ _ => yfa _ fa190_0) ?_
    refine uv (v := .pointer (some ⟨g, 4, none⟩)) (fun _ _ => yfa _ fa29_4) ?_
    refine uv (v := .slice A2 ls.length c2) (fun _ Sx64 => (y_load rfl rfl (r_load Try.underlying23 rfl (St.cl 3 Sx64 rfl qRow_g4)))) ?_
    refine uv (v := .int .i64 ((ls.length : Nat) : Int)) (fun _ _ => (y_builtin (vs := [.slice A2 ls.length c2]) rfl ⟨rfl, trivial⟩ fun _ => r_len rfl Try.underlying23)) ?_
    refine uv (v := .int .i64 ((rs.length + ls.length : Nat) : Int)) (fun _ _ => (y_binop rfl rfl rfl (r_add (by omega) (by omega)))) ?_
    by_cases h3 : rs.length + ls.length = 500
    ·refine uv (v := .bool true) (fun _ _ => (deqlT (h := by omega))) ?_
     refine uv (v := .bool true) (fun _ _ => ym) ?_
     iterate 6 refine usk ?_
     refine uv (v := .bool true) (fun _ _ => ypT) ?_
     refine uv (v := .bool true) (fun _ _ => ya) ?_
     refine wU_nil fun w71 S72 => ?_; clear S48
     refine pk [0, 3, 4, 5, 6, 33] ?_
     refine x_tysr (vv (v := .agg #[.int .i64 14, .int .i64 0, .int .i64 0, .int .i64 0]) (y_build (vs := [(0, .int .i64 14)]) rfl ⟨rfl, rfl, trivial⟩ (by kernel_rfl)) ?_)
     refine sa 1 S72 inf93 ?_; intro w73 S74; clear S72
     refine va ?_
     refine qk [4, 5] ?_
     refine x_tech (pc 1 S74 Try.underlying93 inf93 ?_)
     have S75 : St B w0 w73 (_ :: _ :: _ :: fs) := (St.del 0 (St.del 1 (St.del 2 S74))); clear S74
     have S76 := S75.sealAll 1 rfl; clear S75
     change St _ _ _ (_ :: (.rdo 2 A1 rs.length ((rs).flatMap Msg.cells)) :: _ :: fs) at S76
     have S77 := S76.sealAll 2 rfl; clear S76
     change St _ _ _ (_ :: _ :: (.rdo 4 A2 ls.length ((ls).flatMap Ls.cells)) :: fs) at S77
     rw [pub_full h1 h2 (.inl h3)]
     refine ⟨rfl, A1, c1, A2, c2, ?_⟩
     dsimp only
     exact S77
    ·refine uv (v := .bool false) (fun _ _ => (deqlF (h := by omega))) ?_
     refine uv (v := .bool false) (fun _ _ => ym) ?_
     refine ug (v := .pointer (some ⟨g, 0, none⟩)) (fun _ _ => ym) ?_
     refine ug (v := .pointer (some ⟨g, 0, none⟩)) (fun _ _ => y_nil rfl rfl trivial) ?_
     refine ug (v := .pointer (some ⟨g, 0, none⟩)) (fun _ _ => yfa _ fa190_0) ?_
     refine ug (v := .pointer (some ⟨g, 1, none⟩)) (fun _ _ => yfa _ fa29_1) ?_
     refine ug (v := .int .i64 nx) (fun _ Sx84 => (y_load rfl rfl (r_load Try.underlying3 rfl (St.cl 3 Sx84 rfl qRow_g1)))) ?_
     by_cases h4 : nx = 1073741824
     ·refine ug (v := .bool true) (fun _ _ => yeqlT h4) ?_
      refine uv (v := .bool true) (fun _ _ => ypF) ?_
      refine uv (v := .bool true) (fun _ _ => ya) ?_
      refine wU_nil fun w88 S89 => ?_; clear S48
      refine pk [0, 3, 4, 5, 6, 33] ?_
      refine x_tysr (vv (v := .agg #[.int .i64 14, .int .i64 0, .int .i64 0, .int .i64 0]) (y_build (vs := [(0, .int .i64 14)]) rfl ⟨rfl, rfl, trivial⟩ (by kernel_rfl)) ?_)
      refine sa 1 S89 inf93 ?_; intro w90 S91; clear S89
      refine va ?_
      refine qk [4, 5] ?_
      refine x_tech (pc 1 S91 Try.underlying93 inf93 ?_)
      have S92 : St B w0 w90 (_ :: _ :: _ :: fs) := (St.del 0 (St.del 1 (St.del 2 S91))); clear S91
      have S93 := S92.sealAll 1 rfl; clear S92
      change St _ _ _ (_ :: (.rdo 2 A1 rs.length ((rs).flatMap Msg.cells)) :: _ :: fs) at S93
      have S94 := S93.sealAll 2 rfl; clear S93
      change St _ _ _ (_ :: _ :: (.rdo 4 A2 ls.length ((ls).flatMap Ls.cells)) :: fs) at S94
      rw [pub_full h1 h2 (.inr h4)]
      refine ⟨rfl, A1, c1, A2, c2, ?_⟩
      dsimp only
      exact S94
     ·refine ug (v := .bool false) (fun _ _ => yeqlF h4) ?_
      refine uv (v := .bool false) (fun _ _ => ypF) ?_
      refine uv (v := .bool false) (fun _ _ => ya) ?_
      refine wU_nil fun w98 S99 => ?_; clear S48
      refine pk [0, 3, 4, 5, 6, 33] ?_
      refine wQ_then (wC_cond_f rfl (wC_skip (wQ_blk_n (wQ_then (wC_seq ?_)))))
      have S100 := S99.drew; clear S99
      refine wC_any_ (C := fun w' => St B w0 w' ((.blk b46 (((takeW (W.at k) id).1.cells).toArray) 26) :: (.blk b4 #[.int .i64 0, .int .i64 0, .int .i64 0, .int .i64 0] 93) :: (.blk b1 #[.int .i64 kd, .int .i64 ((k : Nat) : Int), .int .i64 id, .int .i64 bd, .int .i64 he, .int .i64 hn] 37) :: (.own 137 2 (.slice A1 rs.length c1) rs.length ((rs).flatMap Msg.cells)) :: (.own 141 4 (.slice A2 ls.length c2) ls.length ((ls).flatMap Ls.cells)) :: fs)) (n := 9) (listed := #[false, false, false, false, false, false, false, false, false]) mixed rfl rfl ?_
      refine ak (v := .pointer (some ⟨g, 0, none⟩)) 0 rfl (St.del 3 S100) (fun _ _ => ym) ?_
      refine ak (v := .pointer (some ⟨b1, 1, none⟩)) 1 rfl (St.del 3 S100) (fun _ _ => yfa _ fa37_1) ?_
      refine ak (v := .int .i64 ((k : Nat) : Int)) 2 rfl (St.del 3 S100) (fun _ Sx103 => ylc 2 Sx103 Try.underlying3) ?_
      refine ak (v := .agg (((takeW (W.at k) id).1.cells).toArray)) 3 rfl (St.del 3 S100) (fun _ Sx104 => ylr 0 Sx104 Try.underlying26 inf26) ?_
      refine ak (v := .pointer (some ⟨g, 0, none⟩)) 4 rfl (St.del 3 S100) (fun _ _ => y_nil rfl rfl trivial) ?_
      refine ak (v := .pointer (some ⟨g, 0, none⟩)) 5 rfl (St.del 3 S100) (fun _ _ => yfa _ fa190_0) ?_
      refine ak (v := .pointer (some ⟨g, 5, none⟩)) 6 rfl (St.del 3 S100) (fun _ _ => yfa _ fa29_5) ?_
      refine ak (v := .pointer (some ⟨g, 5 + k * 9, none⟩)) 7 rfl (St.del 3 S100) (fun _ _ => (y_indexAddr rfl rfl rfl (r_indexArr k Try.underlying27 inf26 rfl hk))) ?_
      refine aq1 8 ?_
      refine wN_st (i := 8) rfl rfl (cs := ((takeW (W.at k) id).1.cells).toArray) (row' := qRow ep nx gv (.slice A1 rs.length c1) (.slice A2 ls.length c2) (W.put k (takeW (W.at k) id).1)) (fs' := (.blk b46 (((takeW (W.at k) id).1.cells).toArray) 26) :: (.blk b4 #[.int .i64 0, .int .i64 0, .int .i64 0, .int .i64 0] 93) :: (.blk b1 #[.int .i64 kd, .int .i64 ((k : Nat) : Int), .int .i64 id, .int .i64 bd, .int .i64 he, .int .i64 hn] 37) :: (.blk g (qRow ep nx gv (.slice A1 rs.length c1) (.slice A2 ls.length c2) (W.put k (takeW (W.at k) id).1)) 190) :: (.own 137 2 (.slice A1 rs.length c1) rs.length ((rs).flatMap Msg.cells)) :: (.own 141 4 (.slice A2 ls.length c2) ls.length ((ls).flatMap Ls.cells)) :: fs) 3 S100 (wn rfl) rfl rfl rfl rfl rfl rfl inf26 rfl (win_one _) (by rw [qRow_size]; omega) (qRow_pk hk) rfl ?_; intro w109 S110; clear S100
      refine ⟨(St.del 3 S110), ?_⟩
      refine wA_done (by kernel_rfl) ?_
      refine pk [0, 3, 4, 5] ?_
      refine wQ_then (wC_seq ?_)
      have S111 := S110.drew; clear S110
      refine wC_head (C := fun w' => St B w0 w' ((.blk b46 (((takeW (W.at k) id).1.cells).toArray) 26) :: (.blk b4 #[.int .i64 0, .int .i64 0, .int .i64 0, .int .i64 0] 93) :: (.blk b1 #[.int .i64 kd, .int .i64 ((k : Nat) : Int), .int .i64 id, .int .i64 bd, .int .i64 he, .int .i64 hn] 37) :: (.blk g (qRow ep nx gv (.slice A1 rs.length c1) (.slice A2 ls.length c2) (W.put k (takeW (W.at k) id).1)) 190) :: (.own 141 4 (.slice A2 ls.length c2) ls.length ((ls).flatMap Ls.cells)) :: fs)) (m := 20) (listed := #[false, false, false, false, false, false, false, false, false, false, false, false, false, false, false, false, false, false, false, false]) 16 mixed rfl rfl ?_
      refine gk (v := .pointer (some ⟨g, 0, none⟩)) 0 rfl (St.del 4 S111) (fun _ _ => ym) ?_
      refine gk (v := .pointer (some ⟨g, 0, none⟩)) 1 rfl (St.del 4 S111) (fun _ _ => ym) ?_
      refine gk (v := .pointer (some ⟨g, 0, none⟩)) 2 rfl (St.del 4 S111) (fun _ _ => y_nil rfl rfl trivial) ?_
      refine gk (v := .pointer (some ⟨g, 0, none⟩)) 3 rfl (St.del 4 S111) (fun _ _ => yfa _ fa190_0) ?_
      refine gk (v := .pointer (some ⟨g, 3, none⟩)) 4 rfl (St.del 4 S111) (fun _ _ => yfa _ fa29_3) ?_
      refine gk (v := .slice A1 rs.length c1) 5 rfl (St.del 4 S111) (fun _ Sx117 => (y_load rfl rfl (r_load Try.underlying22 rfl (St.cl 3 Sx117 rfl qRow_g3)))) ?_
      refine gk (v := .pointer (some ⟨g, 0, none⟩)) 6 rfl (St.del 4 S111) (fun _ _ => ym) ?_
      refine gk (v := .pointer (some ⟨g, 0, none⟩)) 7 rfl (St.del 4 S111) (fun _ _ => y_nil rfl rfl trivial) ?_
      refine gk (v := .pointer (some ⟨g, 0, none⟩)) 8 rfl (St.del 4 S111) (fun _ _ => yfa _ fa190_0) ?_
      refine gk (v := .pointer (some ⟨g, 1, none⟩)) 9 rfl (St.del 4 S111) (fun _ _ => yfa _ fa29_1) ?_
      refine gk (v := .int .i64 nx) 10 rfl (St.del 4 S111) (fun _ Sx122 => (y_load rfl rfl (r_load Try.underlying3 rfl (St.cl 3 Sx122 rfl qRow_g1)))) ?_
      refine gk (v := .pointer (some ⟨b1, 3, none⟩)) 11 rfl (St.del 4 S111) (fun _ _ => yfa _ fa37_3) ?_
      refine gk (v := .int .i64 bd) 12 rfl (St.del 4 S111) (fun _ Sx124 => ylc 2 Sx124 Try.underlying3) ?_
      refine gk (v := .agg #[.int .i64 nx, .int .i64 bd]) 13 rfl (St.del 4 S111) (fun _ _ => (y_build (vs := [(0, .int .i64 nx), (1, .int .i64 bd)]) rfl ⟨rfl, rfl, rfl, rfl, trivial⟩ (by kernel_rfl))) ?_
      refine wG_one (m := 5) (r := 14) (by kernel_rfl) ?_
      refine wH_new (i := 14) rfl rfl (V := fun b => .slice (some ⟨b, 0, none⟩) 1 1) (row := #[.int .i64 nx, .int .i64 bd]) (t := 137) S111 (wn rfl) rfl rfl (d_buildSlice (vs := [(0, .agg #[.int .i64 nx, .int .i64 bd])]) rfl ⟨rfl, rfl, trivial⟩ (by kernel_rfl)) ?_; intro b126 w127 S128; clear S111
      refine ⟨(S128.dels [5, 0]), ?_⟩
      refine wG_one (m := 4) (r := 15) (by kernel_rfl) ?_
      refine wH_append (i := 15) rfl rfl (news := [.int .i64 nx, .int .i64 bd]) (xs' := (rs ++ [(⟨nx, bd⟩ : Msg)]).flatMap Msg.cells) 5 S128 (wn rfl) rfl rfl rfl rfl rfl rfl (St.bld (xs := [.int .i64 nx, .int .i64 bd]) 0 S128 rfl rfl rfl) Try.underlying22 infz137 rfl (by decide) (oneAll rfl) (by simp only [maxLen]; omega) (by omega) (fm_snoc (enc := Msg.cells) rfl rfl) ?_; intro A129 c130 w131 hc133 hm134 S132; clear S128
      change St _ _ _ (_ :: _ :: _ :: _ :: _ :: (.own 137 2 (.slice A129 (rs.length + 1) c130) (rs.length + 1) ((rs ++ [(⟨nx, bd⟩ : Msg)]).flatMap Msg.cells)) :: _ :: fs) at S132
      refine ⟨(S132.dels [5, 0]), ?_⟩
      refine wG_tail (by kernel_rfl) rfl rfl rfl ?_
      refine vv (y_nil rfl rfl trivial) ?_
      refine vv (yfa 0 fa190_0) ?_
      refine vv (yfa 3 fa29_3) ?_
      refine wL_st (cs := #[.slice A129 (rs.length + 1) c130]) (row' := qRow ep nx gv (.slice A129 (rs.length + 1) c130) (.slice A2 ls.length c2) (W.put k (takeW (W.at k) id).1)) (fs' := (_ :: _ :: _ :: _ :: (.blk g (qRow ep nx gv (.slice A129 (rs.length + 1) c130) (.slice A2 ls.length c2) (W.put k (takeW (W.at k) id).1)) 190) :: _ :: _ :: fs)) 4 S132 (wn rfl) rfl rfl rfl rfl rfl rfl inf22 rfl (oneAll rfl) (Nat.le_of_ble_eq_true rfl) qRow_s3 rfl ?_; intro w135 S136; clear S132
      refine wL_nil (wQ_np ?_)
      refine pk [0, 4, 5] ?_
      refine x_tsr (vm ?_)
      refine vv (y_nil rfl rfl trivial) ?_
      refine vv (yfa 0 fa190_0) ?_
      refine vv (yfa 1 fa29_1) ?_
      refine vv (y_load rfl rfl (r_load Try.underlying3 rfl (St.cl 4 S136 rfl qRow_g1))) ?_
      refine vv (v := .int .i64 (nx + 1)) (y_binop rfl rfl rfl (r_add (by omega) (by omega))) ?_
      refine vv (y_nil rfl rfl trivial) ?_
      refine vv (yfa 0 fa190_0) ?_
      refine vv (yfa 1 fa29_1) ?_
      refine wL_st (cs := #[.int .i64 (nx + 1)]) (row' := qRow ep (nx + 1) gv (.slice A129 (rs.length + 1) c130) (.slice A2 ls.length c2) (W.put k (takeW (W.at k) id).1)) (fs' := (_ :: _ :: _ :: _ :: (.blk g (qRow ep (nx + 1) gv (.slice A129 (rs.length + 1) c130) (.slice A2 ls.length c2) (W.put k (takeW (W.at k) id).1)) 190) :: _ :: _ :: fs)) 4 S136 (wn rfl) rfl rfl rfl rfl rfl rfl inf3 rfl (oneAll rfl) (Nat.le_of_ble_eq_true rfl) qRow_s1 rfl ?_; intro w137 S138; clear S136
      refine qk [4, 5] ?_
      refine x_tsr (vv (v := .agg #[.int .i64 0, .int .i64 0, .int .i64 0, .int .i64 0]) yz ?_)
      refine sa 2 S138 inf93 ?_; intro w139 S140; clear S138
      refine va ?_
      refine qk [4, 5] ?_
      refine x_te (pc 2 S140 Try.underlying93 inf93 ?_)
      have S141 : St B w0 w139 (_ :: _ :: _ :: fs) := (St.del 0 (St.del 1 (St.del 2 (St.del 3 S140)))); clear S140
      have S142 := S141.sealAll 1 rfl; clear S141
      change St _ _ _ (_ :: (.rdo 2 A129 (rs.length + 1) ((rs ++ [(⟨nx, bd⟩ : Msg)]).flatMap Msg.cells)) :: _ :: fs) at S142
      have S143 := S142.sealAll 2 rfl; clear S142
      change St _ _ _ (_ :: _ :: (.rdo 4 A2 ls.length ((ls).flatMap Ls.cells)) :: fs) at S143
      rw [pub_ok h1 h2 (fun h => h.elim h3 h4)]
      have hln := (by simp : (rs ++ [(⟨nx, bd⟩ : Msg)]).length = rs.length + 1)
      refine ⟨rfl, A129, c130, A2, c2, ?_⟩
      dsimp only
      rw [hln]
      exact S143
  ·refine vv (yneqT h1) ?_
   refine va ?_
   refine qk [0, 3, 4, 5, 6, 7, 8, 24] ?_
   refine x_tysr (vm ?_)
   refine vv (v := .agg #[.int .i64 ((takeW (W.at k) id).2.2), .int .i64 0, .int .i64 0, .int .i64 0]) (y_build (vs := [(0, .int .i64 ((takeW (W.at k) id).2.2))]) rfl ⟨rfl, rfl, trivial⟩ (by kernel_rfl)) ?_
   refine sa 1 S48 inf93 ?_; intro w144 S145; clear S48
   refine va ?_
   refine qk [4, 5] ?_
   refine x_tech (pc 1 S145 Try.underlying93 inf93 ?_)
   have S146 : St B w0 w144 (_ :: _ :: _ :: fs) := (St.del 0 (St.del 1 (St.del 2 S145))); clear S145
   have S147 := S146.sealAll 1 rfl; clear S146
   change St _ _ _ (_ :: (.rdo 2 A1 rs.length ((rs).flatMap Msg.cells)) :: _ :: fs) at S147
   have S148 := S147.sealAll 2 rfl; clear S147
   change St _ _ _ (_ :: _ :: (.rdo 4 A2 ls.length ((ls).flatMap Ls.cells)) :: fs) at S148
   rw [pub_err h1]
   refine ⟨rfl, A1, c1, A2, c2, ?_⟩
   dsimp only
   exact S148
end Go.Proofs.Ytkjlafpafmihaaa

namespace Go.Proofs.Ytkjlafpafmihaaa
open Go.ChangeShapes Go.WideShapes Go.RowKit

theorem own_caps {w : World} {base : Nat} {e : TypeId} {size : Nat} {A : Option Addr} {n c : Nat} {xs : List Value} (h : w.ownsRow base e size (.slice A n c) n xs) : n ≤ c ∧ c ≤ maxLen := by
  obtain ⟨A', c', e1, h1, h2⟩ := own_form h
  cases e1
  exact ⟨h1, h2⟩
theorem fm_drop {α : Type} {enc : α → List Value} {sz : Nat} (hsz : ∀ x, (enc x).length = sz) : ∀ (k : Nat) (l : List α), (l.flatMap enc).drop (k * sz) = (l.drop k).flatMap enc
  | 0, l => by simp
  | k + 1, [] => by simp
  | k + 1, x :: l => by rw [List.flatMap_cons, Nat.succ_mul, Nat.add_comm, ← List.drop_drop, List.drop_left' (hsz x), fm_drop hsz k l]; rfl
theorem rd_drop1 {w : World} {B : Nat} {A : Option Addr} {rs : List Msg} (h : Rd w B 2 A (rs.length - 1) (((rs.flatMap Msg.cells).drop (1 * 2)).take ((rs.length - 1) * 2))) : Rd w B 2 A (rs.length - 1) ((rs.drop 1).flatMap Msg.cells) := by
  rw [fm_drop (enc := Msg.cells) (sz := 2) (fun _ => rfl), List.take_of_length_le (by rw [fm_len (sz := 2) (fun _ => rfl), List.length_drop]; exact Nat.le_refl _)] at h
  exact h

set_option maxRecDepth 100000 in
set_option maxHeartbeats 2000000 in
theorem receive_calls {B g k c1 c2 : Nat} {w0 w : World} {fs : List Fact} {A1 A2 : Option Addr} {rs : List Msg} {ls : List Ls} {W : Wins} {ep nx gv kd id bd he hn : Int} (S : St B w0 w (.blk g (qRow ep nx gv (.slice A1 rs.length c1) (.slice A2 ls.length c2) W) 190 :: .own 137 2 (.slice A1 rs.length c1) rs.length ((rs).flatMap Msg.cells) :: .own 141 4 (.slice A2 ls.length c2) ls.length ((ls).flatMap Ls.cells) :: fs)) (hk : k < 4) (hlen : rs.length + ls.length ≤ 500) (hnx : 0 ≤ nx ∧ nx ≤ 1073741824) (hgv : 0 ≤ gv ∧ gv ≤ 1073741824) (hep : 0 ≤ ep ∧ ep ≤ 1048576) :
    Calls Try.prog 146 #[.pointer (some ⟨g, 0, none⟩), .agg #[.int .i64 kd, .int .i64 ((k : Nat) : Int), .int .i64 id, .int .i64 bd, .int .i64 he, .int .i64 hn]] w (DeskPost B w0 g fs (recM ⟨ep, nx, gv, rs, ls, W⟩)) := by
 refine calls_of_wC (N := 80) (vs := [.pointer (some ⟨g, 0, none⟩), .agg #[.int .i64 kd, .int .i64 ((k : Nat) : Int), .int .i64 id, .int .i64 bd, .int .i64 he, .int .i64 hn]]) Try.func146 rfl rfl rfl ?_
 refine cw [0, 1] ?_
 refine x_sr (nb (row := #[.int .i64 kd, .int .i64 ((k : Nat) : Int), .int .i64 id, .int .i64 bd, .int .i64 he, .int .i64 hn]) S ?_); intro b1 w2 S3; clear S
 refine na (row := #[.int .i64 0, .int .i64 0, .int .i64 0, .int .i64 0]) S3 Try.zeroValue93 ?_; intro b4 w5 S6; clear S3
 refine va ?_
 refine qk [0, 4, 5] ?_
 refine wQ_then (wC_seq (wC_block (wC_seq (wC_region (vm ?_)))))
 refine vv (y_nil rfl rfl trivial) ?_
 refine vv (yfa 0 fa190_0) ?_
 refine vv (yfa 3 fa29_3) ?_
 refine vv (y_load rfl rfl (r_load Try.underlying22 rfl (St.cl 2 S6 rfl qRow_g3))) ?_
 refine vv (v := .int .i64 ((rs.length : Nat) : Int)) (y_builtin (vs := [.slice A1 rs.length c1]) rfl ⟨rfl, trivial⟩ fun _ => r_len rfl Try.underlying22) ?_
 by_cases h1 : rs.length = 0
 ·refine vv (deqlT (h := by omega)) ?_
  refine va ?_
  refine qk [0, 4, 5, 7] ?_
  refine x_tysr (vv (v := .agg #[.int .i64 10, .int .i64 0, .int .i64 0, .int .i64 0]) (y_build (vs := [(0, .int .i64 10)]) rfl ⟨rfl, rfl, trivial⟩ (by kernel_rfl)) ?_)
  refine sa 0 S6 inf93 ?_; intro w7 S8; clear S6
  refine va ?_
  refine qk [4, 5] ?_
  refine x_tech (pc 0 S8 Try.underlying93 inf93 ?_)
  have S9 : St B w0 w7 (_ :: _ :: _ :: fs) := (St.del 0 (St.del 1 S8)); clear S8
  have S10 := S9.sealAll 1 rfl; clear S9
  change St _ _ _ (_ :: (.rdo 2 A1 rs.length ((rs).flatMap Msg.cells)) :: _ :: fs) at S10
  have S11 := S10.sealAll 2 rfl; clear S10
  change St _ _ _ (_ :: _ :: (.rdo 4 A2 ls.length ((ls).flatMap Ls.cells)) :: fs) at S11
  rw [rec_none h1]
  refine ⟨rfl, A1, c1, A2, c2, ?_⟩
  dsimp only
  exact S11
 ·refine vv (deqlF (h := by omega)) ?_
  refine va ?_
  refine qk [0, 4, 5, 7] ?_
  refine x_tnsr (vm ?_)
  refine vv (y_nil rfl rfl trivial) ?_
  refine vv (yfa 0 fa190_0) ?_
  refine vv (yfa 2 fa29_2) ?_
  refine vv (y_load rfl rfl (r_load Try.underlying3 rfl (St.cl 2 S6 rfl qRow_g2))) ?_
  by_cases h2 : gv = 1073741824
  ·refine vv (yeqlT h2) ?_
   refine va ?_
   refine qk [0, 4, 5, 16] ?_
   refine x_tysr (vv (v := .agg #[.int .i64 14, .int .i64 0, .int .i64 0, .int .i64 0]) (y_build (vs := [(0, .int .i64 14)]) rfl ⟨rfl, rfl, trivial⟩ (by kernel_rfl)) ?_)
   refine sa 0 S6 inf93 ?_; intro w12 S13; clear S6
   refine va ?_
   refine qk [4, 5] ?_
   refine x_tech (pc 0 S13 Try.underlying93 inf93 ?_)
   have S14 : St B w0 w12 (_ :: _ :: _ :: fs) := (St.del 0 (St.del 1 S13)); clear S13
   have S15 := S14.sealAll 1 rfl; clear S14
   change St _ _ _ (_ :: (.rdo 2 A1 rs.length ((rs).flatMap Msg.cells)) :: _ :: fs) at S15
   have S16 := S15.sealAll 2 rfl; clear S15
   change St _ _ _ (_ :: _ :: (.rdo 4 A2 ls.length ((ls).flatMap Ls.cells)) :: fs) at S16
   rw [rec_full h1 h2]
   refine ⟨rfl, A1, c1, A2, c2, ?_⟩
   dsimp only
   exact S16
  ·refine vv (yeqlF h2) ?_
   refine va ?_
   refine qk [0, 4, 5, 16] ?_
   refine wQ_then (wC_cond_f rfl (wC_skip (wQ_blk_n (wQ_then (wC_seq ?_)))))
   have S17 := S6.drew; clear S6
   refine wC_head (C := fun w' => St B w0 w' ((.blk b4 #[.int .i64 0, .int .i64 0, .int .i64 0, .int .i64 0] 93) :: (.blk b1 #[.int .i64 kd, .int .i64 ((k : Nat) : Int), .int .i64 id, .int .i64 bd, .int .i64 he, .int .i64 hn] 37) :: (.blk g (qRow ep nx gv (.slice A1 rs.length c1) (.slice A2 ls.length c2) W) 190) :: (.own 137 2 (.slice A1 rs.length c1) rs.length ((rs).flatMap Msg.cells)) :: (.own 141 4 (.slice A2 ls.length c2) ls.length ((ls).flatMap Ls.cells)) :: fs)) (m := 21) (listed := #[false, false, false, false, false, false, false, false, false, false, false, false, false, false, false, false, false, false, false, false, false]) 20 mixed rfl rfl ?_
   refine gk (v := .pointer (some ⟨g, 0, none⟩)) 0 rfl S17 (fun _ _ => ym) ?_
   refine gk (v := .pointer (some ⟨g, 0, none⟩)) 1 rfl S17 (fun _ _ => y_nil rfl rfl trivial) ?_
   refine gk (v := .pointer (some ⟨g, 0, none⟩)) 2 rfl S17 (fun _ _ => yfa _ fa190_0) ?_
   refine gk (v := .pointer (some ⟨g, 0, none⟩)) 3 rfl S17 (fun _ _ => yfa _ fa29_0) ?_
   refine gk (v := .int .i64 ep) 4 rfl S17 (fun _ Sx22 => (y_load rfl rfl (r_load Try.underlying3 rfl (St.cl 2 Sx22 rfl qRow_g0)))) ?_
   refine gk (v := .pointer (some ⟨g, 0, none⟩)) 5 rfl S17 (fun _ _ => ym) ?_
   refine gk (v := .pointer (some ⟨g, 0, none⟩)) 6 rfl S17 (fun _ _ => y_nil rfl rfl trivial) ?_
   refine gk (v := .pointer (some ⟨g, 0, none⟩)) 7 rfl S17 (fun _ _ => yfa _ fa190_0) ?_
   refine gk (v := .pointer (some ⟨g, 2, none⟩)) 8 rfl S17 (fun _ _ => yfa _ fa29_2) ?_
   refine gk (v := .int .i64 gv) 9 rfl S17 (fun _ Sx27 => (y_load rfl rfl (r_load Try.underlying3 rfl (St.cl 2 Sx27 rfl qRow_g2)))) ?_
   refine gk (v := .agg #[.int .i64 ep, .int .i64 gv]) 10 rfl S17 (fun _ _ => (y_build (vs := [(0, .int .i64 ep), (1, .int .i64 gv)]) rfl ⟨rfl, rfl, rfl, rfl, trivial⟩ (by kernel_rfl))) ?_
   refine gk (v := .pointer (some ⟨g, 0, none⟩)) 11 rfl S17 (fun _ _ => ym) ?_
   refine gk (v := .pointer (some ⟨g, 0, none⟩)) 12 rfl S17 (fun _ _ => y_nil rfl rfl trivial) ?_
   refine gk (v := .pointer (some ⟨g, 0, none⟩)) 13 rfl S17 (fun _ _ => yfa _ fa190_0) ?_
   refine gk (v := .pointer (some ⟨g, 3, none⟩)) 14 rfl S17 (fun _ _ => yfa _ fa29_3) ?_
   refine gk (v := .slice A1 rs.length c1) 15 rfl S17 (fun _ Sx33 => (y_load rfl rfl (r_load Try.underlying22 rfl (St.cl 2 Sx33 rfl qRow_g3)))) ?_
   obtain ⟨b34, o35, rfl⟩ := Rd.addr (St.ord 3 S17 rfl) (by omega)
   obtain ⟨x36, hx37⟩ := elm 0 (St.ord 3 S17 rfl) (by omega)
   refine gk (v := .pointer (some ⟨b34, o35 + 0 * 2, none⟩)) 16 rfl S17 (fun _ _ => (y_indexAddr rfl rfl rfl (r_indexAddr 0 Try.underlying22 inf137 (by omega) (by omega)))) ?_
   refine gk (v := .agg #[.int .i64 x36.no, .int .i64 x36.body]) 17 rfl S17 (fun _ Sx39 => (y_load rfl rfl (r_load_agg (cs := Msg.cells x36) Try.underlying137 rfl inf137 rfl (Rd.rg2 (St.ord 3 Sx39 rfl) (fun _ _ h => fm_get (enc := Msg.cells) (sz := 2) (fun _ => rfl) hx37 h))))) ?_
   refine gk (v := .agg #[.int .i64 ep, .int .i64 gv, .int .i64 x36.no, .int .i64 x36.body]) 18 rfl S17 (fun _ _ => (y_build (vs := [(0, .agg #[.int .i64 ep, .int .i64 gv]), (1, .agg #[.int .i64 x36.no, .int .i64 x36.body])]) rfl ⟨rfl, rfl, rfl, rfl, trivial⟩ (by kernel_rfl))) ?_
   refine wG_one (m := 1) (r := 19) (by kernel_rfl) ?_
   refine wH_new (i := 19) rfl rfl (V := fun b => .pointer (some ⟨b, 0, none⟩)) (row := #[.int .i64 0, .int .i64 0, .int .i64 0, .int .i64 0]) (t := 141) S17 (wn rfl) rfl rfl (d_alloc rfl (Try.zeroValue141 _) rfl) ?_; intro b41 w42 S43; clear S17
   refine ⟨(St.del 0 S43), ?_⟩
   refine wG_tail (by kernel_rfl) rfl rfl rfl ?_
   refine sa 0 S43 inf141 ?_; intro w44 S45; clear S43
   refine wL_nil (wQ_np ?_)
   refine pk [0, 4, 5, 6] ?_
   refine x_tsr (vm ?_)
   refine vm ?_
   refine vv (y_nil rfl rfl trivial) ?_
   refine vv (yfa 0 fa190_0) ?_
   refine vv (yfa 3 fa29_3) ?_
   refine vv (y_load rfl rfl (r_load Try.underlying22 rfl (St.cl 3 S45 rfl qRow_g3))) ?_
   have hcp := own_caps (S45.own 4 rfl)
   obtain ⟨A46, hr47, hR48, hA49⟩ := slice_exw (P := Try.prog) (t := 22) (s := 2) (A := (some ⟨b34, o35, none⟩)) (n := rs.length) (c := c1) (lo := some (.int .i64 1)) (hi := none) (mx := none) (l := 1) (k := rs.length) (q := c1) Try.underlying22 inf137 (sb_l 1 rfl (by omega)) (by omega) (Nat.le_refl _) (by omega)
   refine vv (v := .slice A46 (rs.length - 1) (c1 - 1)) (y_slice rfl rfl (evo_s rfl) evo_n evo_n (hr47 _)) ?_
   have S50 := S45.seal 4 rfl (rd_drop1 (hR48 _ _ _ (St.ord 4 S45 rfl))) (fun a h => hA49 a h); clear S45
   change St _ _ _ (_ :: _ :: _ :: _ :: (.rdo 2 A46 (rs.length - 1) ((rs.drop 1).flatMap Msg.cells)) :: _ :: fs) at S50
   refine vv (y_nil rfl rfl trivial) ?_
   refine vv (yfa 0 fa190_0) ?_
   refine vv (yfa 3 fa29_3) ?_
   refine wL_st (cs := #[.slice A46 (rs.length - 1) (c1 - 1)]) (row' := qRow ep nx gv (.slice A46 (rs.length - 1) (c1 - 1)) (.slice A2 ls.length c2) W) (fs' := (_ :: _ :: _ :: (.blk g (qRow ep nx gv (.slice A46 (rs.length - 1) (c1 - 1)) (.slice A2 ls.length c2) W) 190) :: _ :: _ :: fs)) 3 S50 (wn rfl) rfl rfl rfl rfl rfl rfl inf22 rfl (oneAll rfl) (Nat.le_of_ble_eq_true rfl) qRow_s3 rfl ?_; intro w51 S52; clear S50
   refine qk [0, 4, 5, 6] ?_
   refine wQ_then (wC_seq ?_)
   have S53 := S52.drew; clear S52
   refine wC_head (C := fun w' => St B w0 w' ((.blk b41 #[.int .i64 ep, .int .i64 gv, .int .i64 x36.no, .int .i64 x36.body] 141) :: (.blk b4 #[.int .i64 0, .int .i64 0, .int .i64 0, .int .i64 0] 93) :: (.blk b1 #[.int .i64 kd, .int .i64 ((k : Nat) : Int), .int .i64 id, .int .i64 bd, .int .i64 he, .int .i64 hn] 37) :: (.blk g (qRow ep nx gv (.slice A46 (rs.length - 1) (c1 - 1)) (.slice A2 ls.length c2) W) 190) :: (.rdo 2 A46 (rs.length - 1) ((rs.drop 1).flatMap Msg.cells)) :: fs)) (m := 13) (listed := #[false, false, false, false, false, false, false, false, false, false, false, false, false]) 9 mixed rfl rfl ?_
   refine gk (v := .pointer (some ⟨g, 0, none⟩)) 0 rfl (St.del 5 S53) (fun _ _ => ym) ?_
   refine gk (v := .pointer (some ⟨g, 0, none⟩)) 1 rfl (St.del 5 S53) (fun _ _ => ym) ?_
   refine gk (v := .pointer (some ⟨g, 0, none⟩)) 2 rfl (St.del 5 S53) (fun _ _ => y_nil rfl rfl trivial) ?_
   refine gk (v := .pointer (some ⟨g, 0, none⟩)) 3 rfl (St.del 5 S53) (fun _ _ => yfa _ fa190_0) ?_
   refine gk (v := .pointer (some ⟨g, 4, none⟩)) 4 rfl (St.del 5 S53) (fun _ _ => yfa _ fa29_4) ?_
   refine gk (v := .slice A2 ls.length c2) 5 rfl (St.del 5 S53) (fun _ Sx59 => (y_load rfl rfl (r_load Try.underlying23 rfl (St.cl 3 Sx59 rfl qRow_g4)))) ?_
   refine gk (v := .agg #[.int .i64 ep, .int .i64 gv, .int .i64 x36.no, .int .i64 x36.body]) 6 rfl (St.del 5 S53) (fun _ Sx60 => ylr 0 Sx60 Try.underlying141 inf141) ?_
   refine wG_one (m := 5) (r := 7) (by kernel_rfl) ?_
   refine wH_new (i := 7) rfl rfl (V := fun b => .slice (some ⟨b, 0, none⟩) 1 1) (row := #[.int .i64 ep, .int .i64 gv, .int .i64 x36.no, .int .i64 x36.body]) (t := 141) S53 (wn rfl) rfl rfl (d_buildSlice (vs := [(0, .agg #[.int .i64 ep, .int .i64 gv, .int .i64 x36.no, .int .i64 x36.body])]) rfl ⟨rfl, rfl, trivial⟩ (by kernel_rfl)) ?_; intro b61 w62 S63; clear S53
   refine ⟨(S63.dels [6, 0]), ?_⟩
   refine wG_one (m := 4) (r := 8) (by kernel_rfl) ?_
   refine wH_append (i := 8) rfl rfl (news := [.int .i64 ep, .int .i64 gv, .int .i64 x36.no, .int .i64 x36.body]) (xs' := (ls ++ [(⟨ep, gv, x36⟩ : Ls)]).flatMap Ls.cells) 6 S63 (wn rfl) rfl rfl rfl rfl rfl rfl (St.bld (xs := [.int .i64 ep, .int .i64 gv, .int .i64 x36.no, .int .i64 x36.body]) 0 S63 rfl rfl rfl) Try.underlying23 infz141 rfl (by decide) (oneAll rfl) (by simp only [maxLen]; omega) (by omega) (fm_snoc (enc := Ls.cells) rfl rfl) ?_; intro A64 c65 w66 hc68 hm69 S67; clear S63
   change St _ _ _ (_ :: _ :: _ :: _ :: _ :: _ :: (.own 141 4 (.slice A64 (ls.length + 1) c65) (ls.length + 1) ((ls ++ [(⟨ep, gv, x36⟩ : Ls)]).flatMap Ls.cells)) :: fs) at S67
   refine ⟨(S67.dels [6, 0]), ?_⟩
   refine wG_tail (by kernel_rfl) rfl rfl rfl ?_
   refine vv (y_nil rfl rfl trivial) ?_
   refine vv (yfa 0 fa190_0) ?_
   refine vv (yfa 4 fa29_4) ?_
   refine wL_st (cs := #[.slice A64 (ls.length + 1) c65]) (row' := qRow ep nx gv (.slice A46 (rs.length - 1) (c1 - 1)) (.slice A64 (ls.length + 1) c65) W) (fs' := (_ :: _ :: _ :: _ :: (.blk g (qRow ep nx gv (.slice A46 (rs.length - 1) (c1 - 1)) (.slice A64 (ls.length + 1) c65) W) 190) :: _ :: _ :: fs)) 4 S67 (wn rfl) rfl rfl rfl rfl rfl rfl inf23 rfl (oneAll rfl) (Nat.le_of_ble_eq_true rfl) qRow_s4 rfl ?_; intro w70 S71; clear S67
   refine wL_nil (wQ_np ?_)
   refine pk [0, 4, 5, 6] ?_
   refine x_tsr (vm ?_)
   refine vv (y_nil rfl rfl trivial) ?_
   refine vv (yfa 0 fa190_0) ?_
   refine vv (yfa 2 fa29_2) ?_
   refine vv (y_load rfl rfl (r_load Try.underlying3 rfl (St.cl 4 S71 rfl qRow_g2))) ?_
   refine vv (v := .int .i64 (gv + 1)) (y_binop rfl rfl rfl (r_add (by omega) (by omega))) ?_
   refine vv (y_nil rfl rfl trivial) ?_
   refine vv (yfa 0 fa190_0) ?_
   refine vv (yfa 2 fa29_2) ?_
   refine wL_st (cs := #[.int .i64 (gv + 1)]) (row' := qRow ep nx (gv + 1) (.slice A46 (rs.length - 1) (c1 - 1)) (.slice A64 (ls.length + 1) c65) W) (fs' := (_ :: _ :: _ :: _ :: (.blk g (qRow ep nx (gv + 1) (.slice A46 (rs.length - 1) (c1 - 1)) (.slice A64 (ls.length + 1) c65) W) 190) :: _ :: _ :: fs)) 4 S71 (wn rfl) rfl rfl rfl rfl rfl rfl inf3 rfl (oneAll rfl) (Nat.le_of_ble_eq_true rfl) qRow_s2 rfl ?_; intro w72 S73; clear S71
   refine qk [4, 5, 6] ?_
   refine x_tsr (vv (yfa 0 fa141_0) ?_)
   refine vv (y_load rfl rfl (r_load_agg (cs := [.int .i64 ep, .int .i64 gv]) Try.underlying35 rfl inf35 rfl (St.rg 1 S73 rfl (sub_row (x := 0) (m := 2) rfl)))) ?_
   refine vv (yfa 2 fa141_1) ?_
   refine vv (yfa 3 fa137_1) ?_
   refine vv (ylc 1 S73 Try.underlying3) ?_
   refine vv (v := .agg #[.int .i64 0, .int .i64 ep, .int .i64 gv, .int .i64 x36.body]) (y_build (vs := [(1, .agg #[.int .i64 ep, .int .i64 gv]), (2, .int .i64 x36.body)]) rfl ⟨rfl, rfl, rfl, rfl, trivial⟩ (by kernel_rfl)) ?_
   refine sa 2 S73 inf93 ?_; intro w74 S75; clear S73
   refine va ?_
   refine qk [4, 5] ?_
   refine x_te (pc 2 S75 Try.underlying93 inf93 ?_)
   have S76 : St B w0 w74 (_ :: _ :: _ :: fs) := (St.del 0 (St.del 1 (St.del 2 (St.del 3 S75)))); clear S75
   have S77 := S76.sealAll 2 rfl; clear S76
   change St _ _ _ (_ :: _ :: (.rdo 4 A64 (ls.length + 1) ((ls ++ [(⟨ep, gv, x36⟩ : Ls)]).flatMap Ls.cells)) :: fs) at S77
   have hl1 : (rs.drop 1).length = rs.length - 1 := by simp
   have hl2 : (ls ++ [(⟨ep, gv, x36⟩ : Ls)]).length = ls.length + 1 := by simp
   rw [rec_ok hx37 h2]
   refine ⟨rfl, A46, (c1 - 1), A64, c65, ?_⟩
   dsimp only
   rw [hl1, hl2]
   exact S77
end Go.Proofs.Ytkjlafpafmihaaa

namespace Go.Proofs.Ytkjlafpafmihaaa
open Go.ChangeShapes Go.WideShapes Go.RowKit
section
variable {P : Program} {N : Nat} {l l' : Slots} {w w' w0 : World} {ops : Array Oper} {o : Oper} {rest : List Oper} {Q : Exit → Act → World → Prop} {d B : Nat} {v p : Value} {fs fs' : List Fact} {b m f : Nat} {row row' cs : Array Value} {t ty : TypeId} {x y : Operand}
theorem saq (i : Nat) (S : St B w0 w fs) (hz : (P.info? ty).map (·.size) = some m) (h : ∀ w', St B w0 w' fs' → wL P N ops Q rest l w') (hw : o.guard = none := by exact rfl) (hd : o.dst = none := by exact rfl) (ho : o.op = .store ty x y := by exact rfl)
    (hx : ev l x = some (.pointer (some ⟨b, 0, none⟩)) := by exact rfl) (hy : ev l y = some v := by exact rfl) (hi : fs[i]? = some (.blk b row t) := by exact rfl) (hv : v.cells = cs := by exact rfl) (hm : cs.size = m := by exact rfl)
    (h1 : ∀ u ∈ cs.toList, u.oneCell' = true := by exact qRow_one rfl rfl) (hr : Nat.ble m row.size = true := by exact rfl) (hs : row.size = cs.size := by exact rfl) (hf : SetAt (.blk b cs t) fs i fs' := by repeat' first | exact SetAt.z | apply SetAt.s) : wL P N ops Q (o :: rest) l w :=
  wL_st i S (wn hw) hd ho hx hy hi hv hz hm h1 (by rw [Nat.zero_add]; exact Nat.le_of_ble_eq_true hr) (setAll_all hs) hf.eq h
theorem snq {C : World → Prop} {n : Nat} {listed listed' : Array Bool} (j : Nat) (hi' : ops[j]? = some o) (i : Nat) (S : St B w0 w fs) (hz : (P.info? ty).map (·.size) = some m) (h : ∀ w', St B w0 w' fs' → C w' ∧ wA P N ops Q C n listed' l w') (hl : listed.setIfInBounds j true = listed' := by exact rfl)
    (hw : o.guard = none := by exact rfl) (hd : o.dst = none := by exact rfl) (ho : o.op = .store ty x y := by exact rfl) (hx : ev l x = some (.pointer (some ⟨b, 0, none⟩)) := by exact rfl) (hy : ev l y = some v := by exact rfl) (hi : fs[i]? = some (.blk b row t) := by exact rfl) (hv : v.cells = cs := by exact rfl)
    (hm : cs.size = m := by exact rfl) (h1 : ∀ u ∈ cs.toList, u.oneCell' = true := by exact qRow_one rfl rfl) (hr : Nat.ble m row.size = true := by exact rfl) (hs : row.size = cs.size := by exact rfl) (hf : SetAt (.blk b cs t) fs i fs' := by repeat' first | exact SetAt.z | apply SetAt.s) : wK P N ops Q C n j listed l w :=
  wN_st hi' hl i S (wn hw) hd ho hx hy hi hv hz hm h1 (by rw [Nat.zero_add]; exact Nat.le_of_ble_eq_true hr) (setAll_all hs) hf.eq h
end
end Go.Proofs.Ytkjlafpafmihaaa

namespace Go.Proofs.Ytkjlafpafmihaaa
open Go.ChangeShapes Go.WideShapes Go.RowKit

set_option maxRecDepth 100000 in
set_option maxHeartbeats 8000000 in
theorem QueueFault_calls (ep nx gv : Int) (A1 A2 : Option Addr) (c1 c2 : Nat) (rs : List Msg) (ls : List Ls) (W : Wins) (w : World) (h1 : Rd w w.heap.size 2 A1 rs.length (rs.flatMap Msg.cells)) (h2 : Rd w w.heap.size 4 A2 ls.length (ls.flatMap Ls.cells)) (hb1 : rs.length * 16 ≤ reachBytes) (hb2 : ls.length * 32 ≤ reachBytes) :
    Calls Try.prog 32 #[.agg (qRow ep nx gv (.slice A1 rs.length c1) (.slice A2 ls.length c2) W)] w (IPost w (queueFault ep nx gv rs ls W)) := by
 unfold reachBytes at hb1 hb2
 have S := ((St.start w).addRd h2).addRd h1
 refine fnw 182 Try.func32 ?_
 refine cw [0] ?_
 refine x_sr (nb (row := qRow ep nx gv (.slice A1 rs.length c1) (.slice A2 ls.length c2) W) S ?_); intro b1 w2 S3; clear S
 refine va ?_
 refine qk [1, 2] ?_
 refine x_tssr (vv (yfa 0 fa29_0) ?_)
 refine vv (y_load rfl rfl (r_load Try.underlying3 rfl (St.cl 0 S3 rfl qRow_g0))) ?_
 by_cases h4 : 0 ≤ ep ∧ ep ≤ 1048576
 ·refine cal en107 (In_t h4 _) ?_
  rintro _ w5 ⟨rfl, rfl⟩
  refine ⟨_, rfl, ?_⟩
  refine vv (v := .bool false) yno ?_
  refine vm ?_
  refine vg (yfa 1 fa29_1) ?_
  refine vg (y_load rfl rfl (r_load Try.underlying3 rfl (St.cl 0 S3 rfl qRow_g1))) ?_
  by_cases h6 : 0 ≤ nx ∧ nx ≤ 1073741824
  ·refine calg en107 (In_t h6 _) ?_
   rintro _ w7 ⟨rfl, rfl⟩
   refine ⟨_, rfl, ?_⟩
   refine vg (v := .bool false) yno ?_
   refine vv ypF ?_
   refine vm ?_
   refine vg (yfa 2 fa29_2) ?_
   refine vg (y_load rfl rfl (r_load Try.underlying3 rfl (St.cl 0 S3 rfl qRow_g2))) ?_
   by_cases h8 : 0 ≤ gv ∧ gv ≤ 1073741824
   ·refine calg en107 (In_t h8 _) ?_
    rintro _ w9 ⟨rfl, rfl⟩
    refine ⟨_, rfl, ?_⟩
    refine vg (v := .bool false) yno ?_
    refine vv ypF ?_
    refine vm ?_
    refine vg (yfa 3 fa29_3) ?_
    refine vg (y_load rfl rfl (r_load Try.underlying22 rfl (St.cl 0 S3 rfl qRow_g3))) ?_
    refine vg (v := .int .i64 ((rs.length : Nat) : Int)) (y_builtin (vs := [.slice A1 rs.length c1]) rfl ⟨rfl, trivial⟩ fun _ => r_len rfl Try.underlying22) ?_
    refine vg (yfa 4 fa29_4) ?_
    refine vg (y_load rfl rfl (r_load Try.underlying23 rfl (St.cl 0 S3 rfl qRow_g4))) ?_
    refine vg (v := .int .i64 ((ls.length : Nat) : Int)) (y_builtin (vs := [.slice A2 ls.length c2]) rfl ⟨rfl, trivial⟩ fun _ => r_len rfl Try.underlying23) ?_
    refine vg (v := .int .i64 ((rs.length + ls.length : Nat) : Int)) (y_binop rfl rfl rfl (r_add (by omega) (by omega))) ?_
    by_cases h10 : 500 < ((rs.length + ls.length : Nat) : Int)
    ·refine vg (ygtrT h10) ?_
     refine vv ypF ?_
     refine qk [1, 2, 36] ?_
     refine x_tysr (va ?_)
     refine qk [1, 2] ?_
     refine x_teh (pt ?_)
     exact ⟨ret_int_ (qf_rng (by omega)).symm, S3.low⟩
    ·refine vg (ygtrF h10) ?_
     refine vv ypF ?_
     refine qk [1, 2, 36] ?_
     refine x_tnktssr (va ?_)
     refine qk [1, 2, 3] ?_
     refine wQ_then (wC_block (wC_loop (X := Nat) (fun xv => [(1, .pointer (some ⟨b1, 0, none⟩)), (2, .int .i64 0), (3, .int .i64 ((xv : Nat) : Int))]) (fun xv wr => (xv ≤ 4) ∧ (∀ j, j < xv → winFault (W.at j) = 0) ∧ St w.heap.size w wr [.blk b1 (qRow ep nx gv (.slice A1 rs.length c1) (.slice A2 ls.length c2) W) 29, .rd 2 A1 rs.length ((rs).flatMap Msg.cells), .rd 4 A2 ls.length ((ls).flatMap Ls.cells)]) (fun xv => 4 - xv) (0) ?_ ?_ ?_))
     ·exact ⟨Nat.zero_le _, fun j hj => absurd hj (Nat.not_lt_zero _), S3⟩
     ·exact ⟨rfl, rfl, rfl, trivial⟩
     ·rintro k w11 ⟨hi13, hi14, S12⟩
      try dsimp only at hi13 hi14 S12; clear S3
      refine cw [1, 2, 3] ?_
      refine x_ssr (vm ?_)
      by_cases h15 : ((k : Nat) : Int) < 4
      ·refine vv (ylssT h15) ?_
       refine qk [1, 2, 3, 38] ?_
       refine wQ_then (wC_cond_t rfl (wC_skip (wQ_then (wC_seq (wC_block (wC_seq (wC_region (vm ?_))))))))
       refine vv (yfa 5 fa29_5) ?_
       refine vv (v := .pointer (some ⟨b1, 5 + k * 9, none⟩)) (y_indexAddr rfl rfl rfl (r_indexArr k Try.underlying27 inf26 rfl (by omega))) ?_
       refine vv (v := .agg (((W.at k).cells).toArray)) (y_load rfl rfl (r_load_agg (cs := (W.at k).cells) Try.underlying26 rfl inf26 rfl (St.rg 0 S12 rfl (qRow_wk (by omega))))) ?_
       refine cab en108 S12 (WindowFault_calls (W.at k) _) ?_; intro w16 S17; clear S12
       by_cases h19 : winFault (W.at k) = 0
       ·refine vv (yneqF h19) ?_
        refine qk [1, 2, 3, 46] ?_
        refine wQ_then (wC_cond_f rfl (wC_skip (wQ_blk_n (wQ_then (wC_region (vm ?_))))))
        refine vv (v := .int .i64 ((k + 1 : Nat) : Int)) (y_binop rfl rfl rfl (r_add (by omega) (by omega))) ?_
        refine va ?_
        refine qk [1, 2, 3] ?_
        refine wQ_round (k + 1) ?_ ⟨rfl, rfl, rfl, trivial⟩ (by first | omega | (dsimp only; omega))
        exact ⟨(by omega), (fun j hj => (Nat.lt_succ_iff_lt_or_eq.1 hj).elim (fun h => hi14 j h) (fun h => by rw [h]; exact h19)), S17⟩
       ·refine vv (yneqT h19) ?_
        refine qk [1, 2, 3, 46] ?_
        refine x_tysr (va ?_)
        refine qk [1, 2] ?_
        refine wQ_then (wC_ret (wQ_blk_ret (wQ_then_ret (wQ_then_ret (wQ_blk_ret (wQ_then_ret (pt ?_)))))))
        exact ⟨ret_int_ (qf_win (j := k) (by omega) h19).symm, S17.low⟩
      ·refine vv (ylssF h15) ?_
       refine qk [1, 2, 3, 38] ?_
       refine wQ_then (wC_cond_f rfl (wC_exit (wQ_then_exit (wQ_then_exit (wQ_blk_same (wQ_then (wC_seq (wC_region ?_))))))))
       have hW20 : winsOk W := fun j hj => hi14 j (by omega)
       have S21 := S12.nil 3 1
       refine vv (v := .slice none 0 0) ya ?_
       refine qk [1, 2, 4] ?_
       refine x_tssr (va ?_)
       refine wL_nil (wQ_then (wC_block (wC_loop (X := Nat × (Option Addr) × Nat) (fun xv => [(1, .pointer (some ⟨b1, 0, none⟩)), (2, .int .i64 0), (4, .slice xv.2.1 xv.1 xv.2.2), (5, .int .i64 ((xv.1 : Nat) : Int))]) (fun xv wr => (xv.1 ≤ rs.length) ∧ (rdyFrom nx (-1) rs = rdyFrom nx (prevNo rs xv.1) (rs.drop xv.1)) ∧ St w.heap.size w wr [.own 3 1 (.slice xv.2.1 xv.1 xv.2.2) xv.1 (((rs.take xv.1).map (·.no)).flatMap oneI), .blk b1 (qRow ep nx gv (.slice A1 rs.length c1) (.slice A2 ls.length c2) W) 29, .rd 2 A1 rs.length ((rs).flatMap Msg.cells), .rd 4 A2 ls.length ((ls).flatMap Ls.cells)]) (fun xv => rs.length - xv.1) (0, none, 0) ?_ ?_ ?_)))
       ·exact ⟨Nat.zero_le _, rfl, S21⟩
       ·exact ⟨rfl, rfl, rfl, rfl, trivial⟩
       ·rintro ⟨k, A4, c4⟩ w22 ⟨hi24, hi25, S23⟩
        try dsimp only at hi24 hi25 S23; clear S21
        refine cw [1, 2, 4, 5] ?_
        refine x_ssr (vm ?_)
        refine vv (yfa 3 fa29_3) ?_
        refine vv (y_load rfl rfl (r_load Try.underlying22 rfl (St.cl 1 S23 rfl qRow_g3))) ?_
        refine vv (v := .int .i64 ((rs.length : Nat) : Int)) (y_builtin (vs := [.slice A1 rs.length c1]) rfl ⟨rfl, trivial⟩ fun _ => r_len rfl Try.underlying22) ?_
        by_cases h26 : ((k : Nat) : Int) < ((rs.length : Nat) : Int)
        ·refine vv (ylssT h26) ?_
         refine qk [1, 2, 4, 5, 51] ?_
         refine wQ_then (wC_cond_t rfl (wC_skip (wQ_then (wC_seq (wC_block (wC_seq (wC_region (vv (yfa 3 fa29_3) ?_))))))))
         refine vv (y_load rfl rfl (r_load Try.underlying22 rfl (St.cl 1 S23 rfl qRow_g3))) ?_
         refine vm ?_
         obtain ⟨b27, o28, rfl⟩ := Rd.addr (St.rd 2 S23 rfl) (by omega)
         obtain ⟨x29, hx30⟩ := elm k (St.rd 2 S23 rfl) (by omega)
         refine vv (v := .pointer (some ⟨b27, o28 + k * 2, none⟩)) (y_indexAddr rfl rfl rfl (r_indexAddr k Try.underlying22 inf137 (by omega) (by omega))) ?_
         refine vv (y_load rfl rfl (r_load_agg (cs := Msg.cells x29) Try.underlying137 rfl inf137 rfl (Rd.rg2 (St.rd 2 S23 rfl) (fun _ _ h => fm_get (enc := Msg.cells) (sz := 2) (fun _ => rfl) hx30 h)))) ?_
         refine na (row := #[.int .i64 0, .int .i64 0]) S23 Try.zeroValue137 ?_; intro b31 w32 S33; clear S23
         refine sa 0 S33 inf137 ?_; intro w34 S35; clear S33
         refine qk [1, 2, 4, 5, 6] ?_
         refine wQ_then (wC_seq (wC_seq (wC_quiet S35 mixed (by kernel_rfl) ?_)))
         refine uv (v := .pointer (some ⟨b31, 0, none⟩)) (fun _ _ => yfa _ fa137_0) ?_
         refine uv (v := .int .i64 x29.no) (fun _ Sx37 => ylc 0 Sx37 Try.underlying3) ?_
         refine uv (v := .pointer (some ⟨b1, 1, none⟩)) (fun _ _ => yfa _ fa29_1) ?_
         refine uv (v := .int .i64 nx) (fun _ Sx39 => (y_load rfl rfl (r_load Try.underlying3 rfl (St.cl 2 Sx39 rfl qRow_g1)))) ?_
         refine uv (v := .int .i64 (nx - 1)) (fun _ _ => (y_binop rfl rfl rfl (r_sub (by omega) (by omega)))) ?_
         by_cases h41 : 0 ≤ x29.no ∧ x29.no ≤ nx - 1
         ·refine wU_call (v := .bool true) (vs := [.int .i64 x29.no, .int .i64 0, .int .i64 (nx - 1)]) (wn rfl) rfl rfl (fun _ => (e_call (vs := [.int .i64 x29.no, .int .i64 0, .int .i64 (nx - 1)]) rfl en107 ⟨rfl, rfl, rfl, trivial⟩)) (fun _ Sx42 => (In_t h41 _).mono fun _ _ h => ⟨h.1, h.2 ▸ Sx42⟩) ?_
          refine uv (v := .bool false) (fun _ _ => yno) ?_
          refine uv (v := .bool false) (fun _ _ => ym) ?_
          refine ug (v := .pointer (some ⟨b31, 1, none⟩)) (fun _ _ => yfa _ fa137_1) ?_
          refine ug (v := .int .i64 x29.body) (fun _ Sx46 => ylc 0 Sx46 Try.underlying3) ?_
          by_cases h47 : 0 ≤ x29.body ∧ x29.body ≤ 1000000
          ·refine wU_call (v := .bool true) (vs := [.int .i64 x29.body, .int .i64 0, .int .i64 1000000]) (wg rfl rfl rfl rfl) rfl rfl (fun _ => (e_call (vs := [.int .i64 x29.body, .int .i64 0, .int .i64 1000000]) rfl en107 ⟨rfl, rfl, rfl, trivial⟩)) (fun _ Sx48 => (In_t h47 _).mono fun _ _ h => ⟨h.1, h.2 ▸ Sx48⟩) ?_
           refine ug (v := .bool false) (fun _ _ => yno) ?_
           refine uv (v := .bool false) (fun _ _ => ypF) ?_
           refine uv (v := .bool false) (fun _ _ => ym) ?_
           refine ug (v := .int .i64 ((k : Nat) : Int)) (fun _ _ => ym) ?_
           by_cases h53 : (0 : Int) < ((k : Nat) : Int)
           ·refine ug (v := .bool true) (fun _ _ => ygtrT h53) ?_
            refine ug (v := .bool true) (fun _ _ => ym) ?_
            refine ug (v := .pointer (some ⟨b31, 0, none⟩)) (fun _ _ => yfa _ fa137_0) ?_
            refine ug (v := .int .i64 x29.no) (fun _ Sx57 => ylc 0 Sx57 Try.underlying3) ?_
            refine ug (v := .pointer (some ⟨b1, 3, none⟩)) (fun _ _ => yfa _ fa29_3) ?_
            refine ug (v := .slice (some ⟨b27, o28, none⟩) rs.length c1) (fun _ Sx59 => (y_load rfl rfl (r_load Try.underlying22 rfl (St.cl 2 Sx59 rfl qRow_g3)))) ?_
            refine ug (v := .int .i64 ((k : Nat) : Int)) (fun _ _ => ym) ?_
            refine ug (v := .int .i64 ((k - 1 : Nat) : Int)) (fun _ _ => (y_binop rfl rfl rfl (r_sub (by omega) (by omega)))) ?_
            obtain ⟨x62, hx63⟩ := elm (k - 1) (St.rd 3 S35 rfl) (by omega)
            refine ug (v := .pointer (some ⟨b27, o28 + (k - 1) * 2, none⟩)) (fun _ _ => (y_indexAddr rfl rfl rfl (r_indexAddr (k - 1) Try.underlying22 inf137 (by omega) (by omega)))) ?_
            refine ug (v := .pointer (some ⟨b27, o28 + (k - 1) * 2, none⟩)) (fun _ _ => yfa _ fa137_0) ?_
            refine ug (v := .int .i64 x62.no) (fun _ Sx66 => (y_load rfl rfl (r_load Try.underlying3 rfl (Rd.cl2 (i := 0) (St.rd 3 Sx66 rfl) (fm_get (enc := Msg.cells) (sz := 2) (fun _ => rfl) hx63 rfl))))) ?_
            by_cases h67 : x62.no < x29.no
            ·refine ug (v := .bool false) (fun _ _ => (dleqF (h := by omega))) ?_
             refine ug (v := .bool false) (fun _ _ => ypT) ?_
             refine uv (v := .bool false) (fun _ _ => ypF) ?_
             refine wU_nil fun w71 S72 => ?_; clear S35
             refine pk [1, 2, 4, 5, 6, 87] ?_
             refine wQ_then (wC_cond_f rfl (wC_skip (wQ_then (wC_region (vm ?_)))))
             refine vv (yfa 0 fa137_0) ?_
             refine vv (ylc 0 S72 Try.underlying3) ?_
             refine wL_new (V := fun b => .slice (some ⟨b, 0, none⟩) 1 1) (row := #[.int .i64 x29.no]) (t := 3) S72 (wn rfl) rfl rfl (d_buildSlice (vs := [(0, .int .i64 x29.no)]) rfl ⟨rfl, rfl, trivial⟩ (by kernel_rfl)) ?_; intro b73 w74 S75; clear S72
             refine wL_append (news := [.int .i64 x29.no]) (xs' := ((rs.take (k + 1)).map (·.no)).flatMap oneI) 2 S75 (wn rfl) rfl rfl rfl rfl rfl rfl (St.bld (xs := [.int .i64 x29.no]) 0 S75 rfl rfl rfl) Try.underlying143 infz3 rfl (by decide) (oneAll rfl) (by simp only [maxLen]; omega) (by omega) (fm_snoc (enc := oneI) (take_map (f := fun m : Msg => m.no) hx30) rfl) ?_; intro A76 c77 w78 hc80 hm81 S79; clear S75
             change St _ _ _ [_, _, .own 3 1 (.slice A76 (k + 1) c77) (k + 1) (((rs.take (k + 1)).map (·.no)).flatMap oneI), _, _, _] at S79
             refine va ?_
             refine qk [1, 2, 4, 5] ?_
             refine wQ_blk_n (wQ_then (wC_region (vm ?_)))
             refine vv (v := .int .i64 ((k + 1 : Nat) : Int)) (y_binop rfl rfl rfl (r_add (by omega) (by omega))) ?_
             refine va ?_
             refine qk [1, 2, 4, 5] ?_
             have S82 : St _ _ _ [_, _, _, _] := S79.dels [1, 0]; clear S79
             refine wQ_round (k + 1, A76, c77) ?_ ⟨rfl, rfl, rfl, rfl, trivial⟩ (by first | omega | (dsimp only; omega))
             exact ⟨(by dsimp only; omega), (by dsimp only; rw [prevNo_succ hx30]; exact rdy_yes hi25 hx30 (msgOk_yes ⟨by omega, by omega, by omega, by omega⟩) (by rw [prevNo_pos h53 hx63]; exact h67)), S82⟩
            ·refine ug (v := .bool true) (fun _ _ => (dleqT (h := by omega))) ?_
             refine ug (v := .bool true) (fun _ _ => ypT) ?_
             refine uv (v := .bool true) (fun _ _ => ypF) ?_
             refine wU_nil fun w86 S87 => ?_; clear S35
             refine pk [1, 2, 4, 5, 6, 87] ?_
             refine x_tysr (va ?_)
             refine qk [1, 2] ?_
             refine wQ_then (wC_ret (wQ_then_ret (wQ_blk_ret (wQ_then_ret (wQ_then_ret (wQ_blk_ret (wQ_then_ret (pt ?_))))))))
             exact ⟨ret_int_ (qf_bad fun h => absurd h.2.1 (rdy_no hi25 hx30 fun h2 => by rw [prevNo_pos h53 hx63] at h2; omega)).symm, S87.low⟩
           ·refine ug (v := .bool false) (fun _ _ => ygtrF h53) ?_
            refine ug (v := .bool false) (fun _ _ => ym) ?_
            iterate 10 refine usk ?_
            refine ug (v := .bool false) (fun _ _ => ypF) ?_
            refine uv (v := .bool false) (fun _ _ => ypF) ?_
            refine wU_nil fun w92 S93 => ?_; clear S35
            refine pk [1, 2, 4, 5, 6, 87] ?_
            refine wQ_then (wC_cond_f rfl (wC_skip (wQ_then (wC_region (vm ?_)))))
            refine vv (yfa 0 fa137_0) ?_
            refine vv (ylc 0 S93 Try.underlying3) ?_
            refine wL_new (V := fun b => .slice (some ⟨b, 0, none⟩) 1 1) (row := #[.int .i64 x29.no]) (t := 3) S93 (wn rfl) rfl rfl (d_buildSlice (vs := [(0, .int .i64 x29.no)]) rfl ⟨rfl, rfl, trivial⟩ (by kernel_rfl)) ?_; intro b94 w95 S96; clear S93
            refine wL_append (news := [.int .i64 x29.no]) (xs' := ((rs.take (k + 1)).map (·.no)).flatMap oneI) 2 S96 (wn rfl) rfl rfl rfl rfl rfl rfl (St.bld (xs := [.int .i64 x29.no]) 0 S96 rfl rfl rfl) Try.underlying143 infz3 rfl (by decide) (oneAll rfl) (by simp only [maxLen]; omega) (by omega) (fm_snoc (enc := oneI) (take_map (f := fun m : Msg => m.no) hx30) rfl) ?_; intro A97 c98 w99 hc101 hm102 S100; clear S96
            change St _ _ _ [_, _, .own 3 1 (.slice A97 (k + 1) c98) (k + 1) (((rs.take (k + 1)).map (·.no)).flatMap oneI), _, _, _] at S100
            refine va ?_
            refine qk [1, 2, 4, 5] ?_
            refine wQ_blk_n (wQ_then (wC_region (vm ?_)))
            refine vv (v := .int .i64 ((k + 1 : Nat) : Int)) (y_binop rfl rfl rfl (r_add (by omega) (by omega))) ?_
            refine va ?_
            refine qk [1, 2, 4, 5] ?_
            have S103 : St _ _ _ [_, _, _, _] := S100.dels [1, 0]; clear S100
            refine wQ_round (k + 1, A97, c98) ?_ ⟨rfl, rfl, rfl, rfl, trivial⟩ (by first | omega | (dsimp only; omega))
            exact ⟨(by dsimp only; omega), (by dsimp only; rw [prevNo_succ hx30]; exact rdy_yes hi25 hx30 (msgOk_yes ⟨by omega, by omega, by omega, by omega⟩) (by rw [prevNo_zero h53]; omega)), S103⟩
          ·refine wU_call (v := .bool false) (vs := [.int .i64 x29.body, .int .i64 0, .int .i64 1000000]) (wg rfl rfl rfl rfl) rfl rfl (fun _ => (e_call (vs := [.int .i64 x29.body, .int .i64 0, .int .i64 1000000]) rfl en107 ⟨rfl, rfl, rfl, trivial⟩)) (fun _ Sx104 => (In_f h47 _).mono fun _ _ h => ⟨h.1, h.2 ▸ Sx104⟩) ?_
           refine ug (v := .bool true) (fun _ _ => yno) ?_
           refine uv (v := .bool true) (fun _ _ => ypF) ?_
           refine uv (v := .bool true) (fun _ _ => ym) ?_
           iterate 14 refine usk ?_
           refine uv (v := .bool true) (fun _ _ => ypT) ?_
           refine wU_nil fun w109 S110 => ?_; clear S35
           refine pk [1, 2, 4, 5, 6, 87] ?_
           refine x_tysr (va ?_)
           refine qk [1, 2] ?_
           refine wQ_then (wC_ret (wQ_then_ret (wQ_blk_ret (wQ_then_ret (wQ_then_ret (wQ_blk_ret (wQ_then_ret (pt ?_))))))))
           exact ⟨ret_int_ (qf_bad fun h => absurd h.2.1 (rdy_no hi25 hx30 fun h2 => h47 (by have := msgOk_of h2.1; omega))).symm, S110.low⟩
         ·refine wU_call (v := .bool false) (vs := [.int .i64 x29.no, .int .i64 0, .int .i64 (nx - 1)]) (wn rfl) rfl rfl (fun _ => (e_call (vs := [.int .i64 x29.no, .int .i64 0, .int .i64 (nx - 1)]) rfl en107 ⟨rfl, rfl, rfl, trivial⟩)) (fun _ Sx111 => (In_f h41 _).mono fun _ _ h => ⟨h.1, h.2 ▸ Sx111⟩) ?_
          refine uv (v := .bool true) (fun _ _ => yno) ?_
          refine uv (v := .bool true) (fun _ _ => ym) ?_
          iterate 4 refine usk ?_
          refine uv (v := .bool true) (fun _ _ => ypT) ?_
          refine uv (v := .bool true) (fun _ _ => ym) ?_
          iterate 14 refine usk ?_
          refine uv (v := .bool true) (fun _ _ => ypT) ?_
          refine wU_nil fun w117 S118 => ?_; clear S35
          refine pk [1, 2, 4, 5, 6, 87] ?_
          refine x_tysr (va ?_)
          refine qk [1, 2] ?_
          refine wQ_then (wC_ret (wQ_then_ret (wQ_blk_ret (wQ_then_ret (wQ_then_ret (wQ_blk_ret (wQ_then_ret (pt ?_))))))))
          exact ⟨ret_int_ (qf_bad fun h => absurd h.2.1 (rdy_no hi25 hx30 fun h2 => h41 (by have := msgOk_of h2.1; omega))).symm, S118.low⟩
        ·refine vv (ylssF h26) ?_
         refine qk [1, 2, 4, 5, 51] ?_
         refine wQ_then (wC_cond_f rfl (wC_exit (wQ_then_exit (wQ_then_exit (wQ_blk_same (wQ_then (wC_seq (wC_seq (wC_region (va ?_))))))))))
         refine qk [1, 2, 4, 7] ?_
         refine wQ_then (wC_block ?_)
         obtain rfl : k = rs.length := by omega
         have hR119 : rdyFrom nx (-1) rs = true := by rw [hi25, List.drop_length]; rfl
         have S120 := S23
         rw [List.take_length, ← List.append_nil (rs.map (·.no))] at S120
         change St _ _ _ [.own 3 1 (.slice A4 rs.length c4) rs.length ((rs.map (·.no) ++ (ls.take 0).map (·.msg.no)).flatMap oneI), .blk b1 (qRow ep nx gv (.slice A1 rs.length c1) (.slice A2 ls.length c2) W) 29, .rd 2 A1 rs.length ((rs).flatMap Msg.cells), .rd 4 A2 ls.length ((ls).flatMap Ls.cells)] at S120
         refine wC_loop (X := Nat × (Option Addr) × Nat) (fun xv => [(1, .pointer (some ⟨b1, 0, none⟩)), (2, .int .i64 0), (4, .slice xv.2.1 (rs.length + xv.1) xv.2.2), (7, .int .i64 ((xv.1 : Nat) : Int))]) (fun xv wr => (xv.1 ≤ ls.length) ∧ (lsFrom ep nx gv (-1) ls = lsFrom ep nx gv (prevH ls xv.1) (ls.drop xv.1)) ∧ (-1 ≤ prevH ls xv.1) ∧ St w.heap.size w wr [.own 3 1 (.slice xv.2.1 (rs.length + xv.1) xv.2.2) (rs.length + xv.1) ((rs.map (·.no) ++ (ls.take xv.1).map (·.msg.no)).flatMap oneI), .blk b1 (qRow ep nx gv (.slice A1 rs.length c1) (.slice A2 ls.length c2) W) 29, .rd 2 A1 rs.length ((rs).flatMap Msg.cells), .rd 4 A2 ls.length ((ls).flatMap Ls.cells)]) (fun xv => ls.length - xv.1) (0, A4, c4) ?_ ?_ ?_
         ·exact ⟨Nat.zero_le _, rfl, (by simp [prevH]), S120⟩
         ·exact ⟨rfl, rfl, rfl, rfl, trivial⟩
         ·rintro ⟨k, A5, c5⟩ w121 ⟨hi123, hi124, hi125, S122⟩
          try dsimp only at hi123 hi124 hi125 S122; clear S120
          refine cw [1, 2, 4, 7] ?_
          refine x_ssr (vm ?_)
          refine vv (yfa 4 fa29_4) ?_
          refine vv (y_load rfl rfl (r_load Try.underlying23 rfl (St.cl 1 S122 rfl qRow_g4))) ?_
          refine vv (v := .int .i64 ((ls.length : Nat) : Int)) (y_builtin (vs := [.slice A2 ls.length c2]) rfl ⟨rfl, trivial⟩ fun _ => r_len rfl Try.underlying23) ?_
          by_cases h126 : ((k : Nat) : Int) < ((ls.length : Nat) : Int)
          ·refine vv (ylssT h126) ?_
           refine qk [1, 2, 4, 7, 97] ?_
           refine wQ_then (wC_cond_t rfl (wC_skip (wQ_then (wC_seq (wC_block (wC_seq (wC_region (vv (yfa 4 fa29_4) ?_))))))))
           refine vv (y_load rfl rfl (r_load Try.underlying23 rfl (St.cl 1 S122 rfl qRow_g4))) ?_
           refine vm ?_
           obtain ⟨b127, o128, rfl⟩ := Rd.addr (St.rd 3 S122 rfl) (by omega)
           obtain ⟨x129, hx130⟩ := elm k (St.rd 3 S122 rfl) (by omega)
           refine vv (v := .pointer (some ⟨b127, o128 + k * 4, none⟩)) (y_indexAddr rfl rfl rfl (r_indexAddr k Try.underlying23 inf141 (by omega) (by omega))) ?_
           refine vv (y_load rfl rfl (r_load_agg (cs := Ls.cells x129) Try.underlying141 rfl inf141 rfl (Rd.rg2 (St.rd 3 S122 rfl) (fun _ _ h => fm_get (enc := Ls.cells) (sz := 4) (fun _ => rfl) hx130 h)))) ?_
           refine na (row := #[.int .i64 0, .int .i64 0, .int .i64 0, .int .i64 0]) S122 Try.zeroValue141 ?_; intro b131 w132 S133; clear S122
           refine sa 0 S133 inf141 ?_; intro w134 S135; clear S133
           refine qk [1, 2, 4, 7, 8] ?_
           refine wQ_then (wC_seq (wC_seq (wC_quiet S135 mixed (by kernel_rfl) ?_)))
           refine uv (v := .pointer (some ⟨b131, 2, none⟩)) (fun _ _ => yfa _ fa141_1) ?_
           refine uv (v := .pointer (some ⟨b131, 2, none⟩)) (fun _ _ => yfa _ fa137_0) ?_
           refine uv (v := .int .i64 x129.msg.no) (fun _ Sx138 => ylc 0 Sx138 Try.underlying3) ?_
           refine uv (v := .pointer (some ⟨b1, 1, none⟩)) (fun _ _ => yfa _ fa29_1) ?_
           refine uv (v := .int .i64 nx) (fun _ Sx140 => (y_load rfl rfl (r_load Try.underlying3 rfl (St.cl 2 Sx140 rfl qRow_g1)))) ?_
           refine uv (v := .int .i64 (nx - 1)) (fun _ _ => (y_binop rfl rfl rfl (r_sub (by omega) (by omega)))) ?_
           by_cases h142 : 0 ≤ x129.msg.no ∧ x129.msg.no ≤ nx - 1
           ·refine wU_call (v := .bool true) (vs := [.int .i64 x129.msg.no, .int .i64 0, .int .i64 (nx - 1)]) (wn rfl) rfl rfl (fun _ => (e_call (vs := [.int .i64 x129.msg.no, .int .i64 0, .int .i64 (nx - 1)]) rfl en107 ⟨rfl, rfl, rfl, trivial⟩)) (fun _ Sx143 => (In_t h142 _).mono fun _ _ h => ⟨h.1, h.2 ▸ Sx143⟩) ?_
            refine uv (v := .bool false) (fun _ _ => yno) ?_
            refine uv (v := .bool false) (fun _ _ => ym) ?_
            refine ug (v := .pointer (some ⟨b131, 2, none⟩)) (fun _ _ => yfa _ fa141_1) ?_
            refine ug (v := .pointer (some ⟨b131, 3, none⟩)) (fun _ _ => yfa _ fa137_1) ?_
            refine ug (v := .int .i64 x129.msg.body) (fun _ Sx148 => ylc 0 Sx148 Try.underlying3) ?_
            by_cases h149 : 0 ≤ x129.msg.body ∧ x129.msg.body ≤ 1000000
            ·refine wU_call (v := .bool true) (vs := [.int .i64 x129.msg.body, .int .i64 0, .int .i64 1000000]) (wg rfl rfl rfl rfl) rfl rfl (fun _ => (e_call (vs := [.int .i64 x129.msg.body, .int .i64 0, .int .i64 1000000]) rfl en107 ⟨rfl, rfl, rfl, trivial⟩)) (fun _ Sx150 => (In_t h149 _).mono fun _ _ h => ⟨h.1, h.2 ▸ Sx150⟩) ?_
             refine ug (v := .bool false) (fun _ _ => yno) ?_
             refine uv (v := .bool false) (fun _ _ => ypF) ?_
             refine uv (v := .bool false) (fun _ _ => ym) ?_
             refine ug (v := .pointer (some ⟨b131, 0, none⟩)) (fun _ _ => yfa _ fa141_0) ?_
             refine ug (v := .pointer (some ⟨b131, 0, none⟩)) (fun _ _ => yfa _ fa35_0) ?_
             refine ug (v := .int .i64 x129.hep) (fun _ Sx156 => ylc 0 Sx156 Try.underlying3) ?_
             refine ug (v := .pointer (some ⟨b1, 0, none⟩)) (fun _ _ => yfa _ fa29_0) ?_
             refine ug (v := .int .i64 ep) (fun _ Sx158 => (y_load rfl rfl (r_load Try.underlying3 rfl (St.cl 2 Sx158 rfl qRow_g0)))) ?_
             by_cases h159 : x129.hep = ep
             ·refine ug (v := .bool false) (fun _ _ => yneqF h159) ?_
              refine uv (v := .bool false) (fun _ _ => ypF) ?_
              refine uv (v := .bool false) (fun _ _ => ym) ?_
              refine ug (v := .pointer (some ⟨b131, 0, none⟩)) (fun _ _ => yfa _ fa141_0) ?_
              refine ug (v := .pointer (some ⟨b131, 1, none⟩)) (fun _ _ => yfa _ fa35_1) ?_
              refine ug (v := .int .i64 x129.hno) (fun _ Sx165 => ylc 0 Sx165 Try.underlying3) ?_
              refine ug (v := .pointer (some ⟨b1, 2, none⟩)) (fun _ _ => yfa _ fa29_2) ?_
              refine ug (v := .int .i64 gv) (fun _ Sx167 => (y_load rfl rfl (r_load Try.underlying3 rfl (St.cl 2 Sx167 rfl qRow_g2)))) ?_
              refine ug (v := .int .i64 (gv - 1)) (fun _ _ => (y_binop rfl rfl rfl (r_sub (by omega) (by omega)))) ?_
              by_cases h169 : 0 ≤ x129.hno ∧ x129.hno ≤ gv - 1
              ·refine wU_call (v := .bool true) (vs := [.int .i64 x129.hno, .int .i64 0, .int .i64 (gv - 1)]) (wg rfl rfl rfl rfl) rfl rfl (fun _ => (e_call (vs := [.int .i64 x129.hno, .int .i64 0, .int .i64 (gv - 1)]) rfl en107 ⟨rfl, rfl, rfl, trivial⟩)) (fun _ Sx170 => (In_t h169 _).mono fun _ _ h => ⟨h.1, h.2 ▸ Sx170⟩) ?_
               refine ug (v := .bool false) (fun _ _ => yno) ?_
               refine uv (v := .bool false) (fun _ _ => ypF) ?_
               refine uv (v := .bool false) (fun _ _ => ym) ?_
               refine ug (v := .int .i64 ((k : Nat) : Int)) (fun _ _ => ym) ?_
               by_cases h175 : (0 : Int) < ((k : Nat) : Int)
               ·refine ug (v := .bool true) (fun _ _ => ygtrT h175) ?_
                refine ug (v := .bool true) (fun _ _ => ym) ?_
                refine ug (v := .pointer (some ⟨b131, 0, none⟩)) (fun _ _ => yfa _ fa141_0) ?_
                refine ug (v := .pointer (some ⟨b131, 1, none⟩)) (fun _ _ => yfa _ fa35_1) ?_
                refine ug (v := .int .i64 x129.hno) (fun _ Sx180 => ylc 0 Sx180 Try.underlying3) ?_
                refine ug (v := .pointer (some ⟨b1, 4, none⟩)) (fun _ _ => yfa _ fa29_4) ?_
                refine ug (v := .slice (some ⟨b127, o128, none⟩) ls.length c2) (fun _ Sx182 => (y_load rfl rfl (r_load Try.underlying23 rfl (St.cl 2 Sx182 rfl qRow_g4)))) ?_
                refine ug (v := .int .i64 ((k : Nat) : Int)) (fun _ _ => ym) ?_
                refine ug (v := .int .i64 ((k - 1 : Nat) : Int)) (fun _ _ => (y_binop rfl rfl rfl (r_sub (by omega) (by omega)))) ?_
                obtain ⟨x185, hx186⟩ := elm (k - 1) (St.rd 4 S135 rfl) (by omega)
                refine ug (v := .pointer (some ⟨b127, o128 + (k - 1) * 4, none⟩)) (fun _ _ => (y_indexAddr rfl rfl rfl (r_indexAddr (k - 1) Try.underlying23 inf141 (by omega) (by omega)))) ?_
                refine ug (v := .pointer (some ⟨b127, o128 + (k - 1) * 4, none⟩)) (fun _ _ => yfa _ fa141_0) ?_
                refine ug (v := .pointer (some ⟨b127, o128 + (k - 1) * 4 + 1, none⟩)) (fun _ _ => yfa _ fa35_1) ?_
                refine ug (v := .int .i64 x185.hno) (fun _ Sx190 => (y_load rfl rfl (r_load Try.underlying3 rfl (Rd.cl2 (i := 1) (St.rd 4 Sx190 rfl) (fm_get (enc := Ls.cells) (sz := 4) (fun _ => rfl) hx186 rfl))))) ?_
                by_cases h191 : x185.hno < x129.hno
                ·refine ug (v := .bool false) (fun _ _ => (dleqF (h := by omega))) ?_
                 refine ug (v := .bool false) (fun _ _ => ypT) ?_
                 refine uv (v := .bool false) (fun _ _ => ypF) ?_
                 refine wU_nil fun w195 S196 => ?_; clear S135
                 refine pk [1, 2, 4, 7, 8, 155] ?_
                 refine wQ_then (wC_cond_f rfl (wC_skip (wQ_then (wC_region (vm ?_)))))
                 refine vv (yfa 2 fa141_1) ?_
                 refine vv (yfa 2 fa137_0) ?_
                 refine vv (ylc 0 S196 Try.underlying3) ?_
                 refine wL_new (V := fun b => .slice (some ⟨b, 0, none⟩) 1 1) (row := #[.int .i64 x129.msg.no]) (t := 3) S196 (wn rfl) rfl rfl (d_buildSlice (vs := [(0, .int .i64 x129.msg.no)]) rfl ⟨rfl, rfl, trivial⟩ (by kernel_rfl)) ?_; intro b197 w198 S199; clear S196
                 refine wL_append (news := [.int .i64 x129.msg.no]) (xs' := (rs.map (·.no) ++ (ls.take (k + 1)).map (·.msg.no)).flatMap oneI) 2 S199 (wn rfl) rfl rfl rfl rfl rfl rfl (St.bld (xs := [.int .i64 x129.msg.no]) 0 S199 rfl rfl rfl) Try.underlying143 infz3 rfl (by decide) (oneAll rfl) (by simp only [maxLen]; omega) (by omega) (fm_snoc (enc := oneI) (by rw [List.append_assoc, take_map (f := fun m : Ls => m.msg.no) hx130]) rfl) ?_; intro A200 c201 w202 hc204 hm205 S203; clear S199
                 change St _ _ _ [_, _, .own 3 1 (.slice A200 ((rs.length + k) + 1) c201) ((rs.length + k) + 1) ((rs.map (·.no) ++ (ls.take (k + 1)).map (·.msg.no)).flatMap oneI), _, _, _] at S203
                 refine va ?_
                 refine qk [1, 2, 4, 7] ?_
                 refine wQ_blk_n (wQ_then (wC_region (vm ?_)))
                 refine vv (v := .int .i64 ((k + 1 : Nat) : Int)) (y_binop rfl rfl rfl (r_add (by omega) (by omega))) ?_
                 refine va ?_
                 refine qk [1, 2, 4, 7] ?_
                 have S206 : St _ _ _ [_, _, _, _] := S203.dels [1, 0]; clear S203
                 refine wQ_round (k + 1, A200, c201) ?_ ⟨rfl, rfl, rfl, rfl, trivial⟩ (by first | omega | (dsimp only; omega))
                 exact ⟨(by dsimp only; omega), (by dsimp only; rw [prevH_succ hx130]; exact ls_yes hi124 hx130 (msgOk_yes ⟨by omega, by omega, by omega, by omega⟩) ⟨by omega, (by rw [prevH_pos h175 hx186]; exact h191), by omega⟩), (by dsimp only; rw [prevH_succ hx130]; omega), S206⟩
                ·refine ug (v := .bool true) (fun _ _ => (dleqT (h := by omega))) ?_
                 refine ug (v := .bool true) (fun _ _ => ypT) ?_
                 refine uv (v := .bool true) (fun _ _ => ypF) ?_
                 refine wU_nil fun w210 S211 => ?_; clear S135
                 refine pk [1, 2, 4, 7, 8, 155] ?_
                 refine x_tysr (va ?_)
                 refine qk [1, 2] ?_
                 refine wQ_then (wC_ret (wQ_then_ret (wQ_blk_ret (wQ_then_ret (wQ_then_ret (wQ_blk_ret (wQ_then_ret (pt ?_))))))))
                 exact ⟨ret_int_ (qf_bad fun h => absurd h.2.2.1 (ls_no hi124 hx130 fun h2 => by rw [prevH_pos h175 hx186] at h2; omega)).symm, S211.low⟩
               ·refine ug (v := .bool false) (fun _ _ => ygtrF h175) ?_
                refine ug (v := .bool false) (fun _ _ => ym) ?_
                iterate 12 refine usk ?_
                refine ug (v := .bool false) (fun _ _ => ypF) ?_
                refine uv (v := .bool false) (fun _ _ => ypF) ?_
                refine wU_nil fun w216 S217 => ?_; clear S135
                refine pk [1, 2, 4, 7, 8, 155] ?_
                refine wQ_then (wC_cond_f rfl (wC_skip (wQ_then (wC_region (vm ?_)))))
                refine vv (yfa 2 fa141_1) ?_
                refine vv (yfa 2 fa137_0) ?_
                refine vv (ylc 0 S217 Try.underlying3) ?_
                refine wL_new (V := fun b => .slice (some ⟨b, 0, none⟩) 1 1) (row := #[.int .i64 x129.msg.no]) (t := 3) S217 (wn rfl) rfl rfl (d_buildSlice (vs := [(0, .int .i64 x129.msg.no)]) rfl ⟨rfl, rfl, trivial⟩ (by kernel_rfl)) ?_; intro b218 w219 S220; clear S217
                refine wL_append (news := [.int .i64 x129.msg.no]) (xs' := (rs.map (·.no) ++ (ls.take (k + 1)).map (·.msg.no)).flatMap oneI) 2 S220 (wn rfl) rfl rfl rfl rfl rfl rfl (St.bld (xs := [.int .i64 x129.msg.no]) 0 S220 rfl rfl rfl) Try.underlying143 infz3 rfl (by decide) (oneAll rfl) (by simp only [maxLen]; omega) (by omega) (fm_snoc (enc := oneI) (by rw [List.append_assoc, take_map (f := fun m : Ls => m.msg.no) hx130]) rfl) ?_; intro A221 c222 w223 hc225 hm226 S224; clear S220
                change St _ _ _ [_, _, .own 3 1 (.slice A221 ((rs.length + k) + 1) c222) ((rs.length + k) + 1) ((rs.map (·.no) ++ (ls.take (k + 1)).map (·.msg.no)).flatMap oneI), _, _, _] at S224
                refine va ?_
                refine qk [1, 2, 4, 7] ?_
                refine wQ_blk_n (wQ_then (wC_region (vm ?_)))
                refine vv (v := .int .i64 ((k + 1 : Nat) : Int)) (y_binop rfl rfl rfl (r_add (by omega) (by omega))) ?_
                refine va ?_
                refine qk [1, 2, 4, 7] ?_
                have S227 : St _ _ _ [_, _, _, _] := S224.dels [1, 0]; clear S224
                refine wQ_round (k + 1, A221, c222) ?_ ⟨rfl, rfl, rfl, rfl, trivial⟩ (by first | omega | (dsimp only; omega))
                exact ⟨(by dsimp only; omega), (by dsimp only; rw [prevH_succ hx130]; exact ls_yes hi124 hx130 (msgOk_yes ⟨by omega, by omega, by omega, by omega⟩) ⟨by omega, (by rw [prevH_zero h175]; omega), by omega⟩), (by dsimp only; rw [prevH_succ hx130]; omega), S227⟩
              ·refine wU_call (v := .bool false) (vs := [.int .i64 x129.hno, .int .i64 0, .int .i64 (gv - 1)]) (wg rfl rfl rfl rfl) rfl rfl (fun _ => (e_call (vs := [.int .i64 x129.hno, .int .i64 0, .int .i64 (gv - 1)]) rfl en107 ⟨rfl, rfl, rfl, trivial⟩)) (fun _ Sx228 => (In_f h169 _).mono fun _ _ h => ⟨h.1, h.2 ▸ Sx228⟩) ?_
               refine ug (v := .bool true) (fun _ _ => yno) ?_
               refine uv (v := .bool true) (fun _ _ => ypF) ?_
               refine uv (v := .bool true) (fun _ _ => ym) ?_
               iterate 16 refine usk ?_
               refine uv (v := .bool true) (fun _ _ => ypT) ?_
               refine wU_nil fun w233 S234 => ?_; clear S135
               refine pk [1, 2, 4, 7, 8, 155] ?_
               refine x_tysr (va ?_)
               refine qk [1, 2] ?_
               refine wQ_then (wC_ret (wQ_then_ret (wQ_blk_ret (wQ_then_ret (wQ_then_ret (wQ_blk_ret (wQ_then_ret (pt ?_))))))))
               exact ⟨ret_int_ (qf_bad fun h => absurd h.2.2.1 (ls_no hi124 hx130 fun h2 => by have := hi125; omega)).symm, S234.low⟩
             ·refine ug (v := .bool true) (fun _ _ => yneqT h159) ?_
              refine uv (v := .bool true) (fun _ _ => ypF) ?_
              refine uv (v := .bool true) (fun _ _ => ym) ?_
              iterate 8 refine usk ?_
              refine uv (v := .bool true) (fun _ _ => ypT) ?_
              refine uv (v := .bool true) (fun _ _ => ym) ?_
              iterate 16 refine usk ?_
              refine uv (v := .bool true) (fun _ _ => ypT) ?_
              refine wU_nil fun w241 S242 => ?_; clear S135
              refine pk [1, 2, 4, 7, 8, 155] ?_
              refine x_tysr (va ?_)
              refine qk [1, 2] ?_
              refine wQ_then (wC_ret (wQ_then_ret (wQ_blk_ret (wQ_then_ret (wQ_then_ret (wQ_blk_ret (wQ_then_ret (pt ?_))))))))
              exact ⟨ret_int_ (qf_bad fun h => absurd h.2.2.1 (ls_no hi124 hx130 fun h2 => h159 h2.2.1)).symm, S242.low⟩
            ·refine wU_call (v := .bool false) (vs := [.int .i64 x129.msg.body, .int .i64 0, .int .i64 1000000]) (wg rfl rfl rfl rfl) rfl rfl (fun _ => (e_call (vs := [.int .i64 x129.msg.body, .int .i64 0, .int .i64 1000000]) rfl en107 ⟨rfl, rfl, rfl, trivial⟩)) (fun _ Sx243 => (In_f h149 _).mono fun _ _ h => ⟨h.1, h.2 ▸ Sx243⟩) ?_
             refine ug (v := .bool true) (fun _ _ => yno) ?_
             refine uv (v := .bool true) (fun _ _ => ypF) ?_
             refine uv (v := .bool true) (fun _ _ => ym) ?_
             iterate 6 refine usk ?_
             refine uv (v := .bool true) (fun _ _ => ypT) ?_
             refine uv (v := .bool true) (fun _ _ => ym) ?_
             iterate 8 refine usk ?_
             refine uv (v := .bool true) (fun _ _ => ypT) ?_
             refine uv (v := .bool true) (fun _ _ => ym) ?_
             iterate 16 refine usk ?_
             refine uv (v := .bool true) (fun _ _ => ypT) ?_
             refine wU_nil fun w252 S253 => ?_; clear S135
             refine pk [1, 2, 4, 7, 8, 155] ?_
             refine x_tysr (va ?_)
             refine qk [1, 2] ?_
             refine wQ_then (wC_ret (wQ_then_ret (wQ_blk_ret (wQ_then_ret (wQ_then_ret (wQ_blk_ret (wQ_then_ret (pt ?_))))))))
             exact ⟨ret_int_ (qf_bad fun h => absurd h.2.2.1 (ls_no hi124 hx130 fun h2 => h149 (by have := msgOk_of h2.1; omega))).symm, S253.low⟩
           ·refine wU_call (v := .bool false) (vs := [.int .i64 x129.msg.no, .int .i64 0, .int .i64 (nx - 1)]) (wn rfl) rfl rfl (fun _ => (e_call (vs := [.int .i64 x129.msg.no, .int .i64 0, .int .i64 (nx - 1)]) rfl en107 ⟨rfl, rfl, rfl, trivial⟩)) (fun _ Sx254 => (In_f h142 _).mono fun _ _ h => ⟨h.1, h.2 ▸ Sx254⟩) ?_
            refine uv (v := .bool true) (fun _ _ => yno) ?_
            refine uv (v := .bool true) (fun _ _ => ym) ?_
            iterate 5 refine usk ?_
            refine uv (v := .bool true) (fun _ _ => ypT) ?_
            refine uv (v := .bool true) (fun _ _ => ym) ?_
            iterate 6 refine usk ?_
            refine uv (v := .bool true) (fun _ _ => ypT) ?_
            refine uv (v := .bool true) (fun _ _ => ym) ?_
            iterate 8 refine usk ?_
            refine uv (v := .bool true) (fun _ _ => ypT) ?_
            refine uv (v := .bool true) (fun _ _ => ym) ?_
            iterate 16 refine usk ?_
            refine uv (v := .bool true) (fun _ _ => ypT) ?_
            refine wU_nil fun w264 S265 => ?_; clear S135
            refine pk [1, 2, 4, 7, 8, 155] ?_
            refine x_tysr (va ?_)
            refine qk [1, 2] ?_
            refine wQ_then (wC_ret (wQ_then_ret (wQ_blk_ret (wQ_then_ret (wQ_then_ret (wQ_blk_ret (wQ_then_ret (pt ?_))))))))
            exact ⟨ret_int_ (qf_bad fun h => absurd h.2.2.1 (ls_no hi124 hx130 fun h2 => h142 (by have := msgOk_of h2.1; omega))).symm, S265.low⟩
          ·refine vv (ylssF h126) ?_
           refine qk [1, 2, 4, 7, 97] ?_
           refine wQ_then (wC_cond_f rfl (wC_exit (wQ_then_exit (wQ_then_exit (wQ_blk_same (wQ_then (wC_seq (wC_seq (wC_region (va ?_))))))))))
           refine qk [1, 2, 4, 9] ?_
           refine wQ_then (wC_block ?_)
           obtain rfl : k = ls.length := by omega
           have hL266 : lsFrom ep nx gv (-1) ls = true := by rw [hi124, List.drop_length]; rfl
           have S267 := S122
           rw [List.take_length] at S267
           change St _ _ _ [.own 3 1 (.slice A5 (rs.length + ls.length) c5) (rs.length + ls.length) ((nosOf rs ls).flatMap oneI), .blk b1 (qRow ep nx gv (.slice A1 rs.length c1) (.slice A2 ls.length c2) W) 29, .rd 2 A1 rs.length ((rs).flatMap Msg.cells), .rd 4 A2 ls.length ((ls).flatMap Ls.cells)] at S267
           have hnl : (nosOf rs ls).length = rs.length + ls.length := by simp [nosOf]
           refine wC_loop (X := Nat) (fun xv => [(1, .pointer (some ⟨b1, 0, none⟩)), (2, .int .i64 0), (4, .slice A5 (rs.length + ls.length) c5), (9, .int .i64 ((xv : Nat) : Int))]) (fun xv wr => (xv ≤ rs.length + ls.length) ∧ (∀ (a b : Nat) (x y : Int), b < a → a < xv → (nosOf rs ls)[a]? = some x → (nosOf rs ls)[b]? = some y → x ≠ y) ∧ St w.heap.size w wr [.own 3 1 (.slice A5 (rs.length + ls.length) c5) (rs.length + ls.length) ((nosOf rs ls).flatMap oneI), .blk b1 (qRow ep nx gv (.slice A1 rs.length c1) (.slice A2 ls.length c2) W) 29, .rd 2 A1 rs.length ((rs).flatMap Msg.cells), .rd 4 A2 ls.length ((ls).flatMap Ls.cells)]) (fun xv => rs.length + ls.length - xv) (0) ?_ ?_ ?_
           ·exact ⟨Nat.zero_le _, fun a b x y _ h => absurd h (Nat.not_lt_zero _), S267⟩
           ·exact ⟨rfl, rfl, rfl, rfl, trivial⟩
           ·rintro i w268 ⟨hi270, hi271, S269⟩
            try dsimp only at hi270 hi271 S269; clear S267
            refine cw [1, 2, 4, 9] ?_
            refine x_ssr (vm ?_)
            refine vm ?_
            refine vv (v := .int .i64 ((rs.length + ls.length : Nat) : Int)) (y_builtin (vs := [.slice A5 (rs.length + ls.length) c5]) rfl ⟨rfl, trivial⟩ fun _ => r_len rfl Try.underlying143) ?_
            by_cases h272 : ((i : Nat) : Int) < ((rs.length + ls.length : Nat) : Int)
            ·refine vv (ylssT h272) ?_
             refine qk [1, 2, 4, 9, 165] ?_
             refine wQ_then (wC_cond_t rfl (wC_skip (wQ_then (wC_seq (wC_block (wC_seq (wC_region (va ?_))))))))
             refine qk [1, 2, 4, 9, 10] ?_
             refine wQ_then (wC_block (wC_loop (X := Nat) (fun xv => [(1, .pointer (some ⟨b1, 0, none⟩)), (2, .int .i64 0), (4, .slice A5 (rs.length + ls.length) c5), (9, .int .i64 ((i : Nat) : Int)), (10, .int .i64 ((xv : Nat) : Int))]) (fun xv wr => (xv ≤ i) ∧ (∀ (b : Nat) (x y : Int), b < xv → (nosOf rs ls)[i]? = some x → (nosOf rs ls)[b]? = some y → x ≠ y) ∧ St w.heap.size w wr [.own 3 1 (.slice A5 (rs.length + ls.length) c5) (rs.length + ls.length) ((nosOf rs ls).flatMap oneI), .blk b1 (qRow ep nx gv (.slice A1 rs.length c1) (.slice A2 ls.length c2) W) 29, .rd 2 A1 rs.length ((rs).flatMap Msg.cells), .rd 4 A2 ls.length ((ls).flatMap Ls.cells)]) (fun xv => i - xv) (0) ?_ ?_ ?_))
             ·exact ⟨Nat.zero_le _, fun b x y h => absurd h (Nat.not_lt_zero _), S269⟩
             ·exact ⟨rfl, rfl, rfl, rfl, rfl, trivial⟩
             ·rintro k w273 ⟨hi275, hi276, S274⟩
              try dsimp only at hi275 hi276 S274; clear S269
              refine cw [1, 2, 4, 9, 10] ?_
              refine x_ssr (vm ?_)
              refine vm ?_
              by_cases h277 : ((k : Nat) : Int) < ((i : Nat) : Int)
              ·refine vv (ylssT h277) ?_
               refine qk [1, 2, 4, 9, 10, 170] ?_
               refine wQ_then (wC_cond_t rfl (wC_skip (wQ_then (wC_seq (wC_block (wC_seq (wC_quiet S274 mixed (by kernel_rfl) ?_)))))))
               refine uv (v := .slice A5 (rs.length + ls.length) c5) (fun _ _ => ym) ?_
               refine uv (v := .int .i64 ((i : Nat) : Int)) (fun _ _ => ym) ?_
               obtain ⟨b280, o281, rfl⟩ := Rd.addr (St.ord 0 S274 rfl) (by omega)
               obtain ⟨x282, hx283⟩ := elm i (St.ord 0 S274 rfl) (by omega)
               refine uv (v := .pointer (some ⟨b280, o281 + i * 1, none⟩)) (fun _ _ => (y_indexAddr rfl rfl rfl (r_indexAddr i Try.underlying143 inf3 (by omega) (by omega)))) ?_
               refine uv (v := .int .i64 x282) (fun _ Sx285 => (y_load rfl rfl (r_load Try.underlying3 rfl (Rd.cl2 (i := 0) (St.ord 0 Sx285 rfl) (fm_get (enc := oneI) (sz := 1) (fun _ => rfl) hx283 rfl))))) ?_
               refine uv (v := .slice (some ⟨b280, o281, none⟩) (rs.length + ls.length) c5) (fun _ _ => ym) ?_
               refine uv (v := .int .i64 ((k : Nat) : Int)) (fun _ _ => ym) ?_
               obtain ⟨x288, hx289⟩ := elm k (St.ord 0 S274 rfl) (by omega)
               refine uv (v := .pointer (some ⟨b280, o281 + k * 1, none⟩)) (fun _ _ => (y_indexAddr rfl rfl rfl (r_indexAddr k Try.underlying143 inf3 (by omega) (by omega)))) ?_
               refine uv (v := .int .i64 x288) (fun _ Sx291 => (y_load rfl rfl (r_load Try.underlying3 rfl (Rd.cl2 (i := 0) (St.ord 0 Sx291 rfl) (fm_get (enc := oneI) (sz := 1) (fun _ => rfl) hx289 rfl))))) ?_
               by_cases h292 : x282 = x288
               ·refine uv (v := .bool true) (fun _ _ => yeqlT h292) ?_
                refine wU_nil fun w294 S295 => ?_; clear S274
                refine pk [1, 2, 4, 9, 10, 181] ?_
                refine x_tysr (va ?_)
                refine qk [1, 2] ?_
                refine wQ_then (wC_ret (wQ_blk_ret (wQ_then_ret (wQ_then_ret (wQ_blk_ret (wQ_blk_ret (wQ_then_ret (wQ_then_ret (wQ_blk_ret (wQ_then_ret (pt ?_)))))))))))
                exact ⟨ret_int_ (qf_bad fun h => not_nodup (by omega) hx283 hx289 h292 h.2.2.2).symm, S295.low⟩
               ·refine uv (v := .bool false) (fun _ _ => yeqlF h292) ?_
                refine wU_nil fun w297 S298 => ?_; clear S274
                refine pk [1, 2, 4, 9, 10, 181] ?_
                refine wQ_then (wC_cond_f rfl (wC_skip (wQ_blk_n (wQ_then (wC_region (vm ?_))))))
                refine vv (v := .int .i64 ((k + 1 : Nat) : Int)) (y_binop rfl rfl rfl (r_add (by omega) (by omega))) ?_
                refine va ?_
                refine qk [1, 2, 4, 9, 10] ?_
                refine wQ_round (k + 1) ?_ ⟨rfl, rfl, rfl, rfl, rfl, trivial⟩ (by first | omega | (dsimp only; omega))
                exact ⟨(by omega), (fun b x y hb hx hy => (Nat.lt_succ_iff_lt_or_eq.1 hb).elim (fun h => hi276 b x y h hx hy) (fun h => by subst h; rw [hx283] at hx; rw [hx289] at hy; cases hx; cases hy; exact h292)), S298⟩
              ·refine vv (ylssF h277) ?_
               refine qk [1, 2, 4, 9, 10, 170] ?_
               refine wQ_then (wC_cond_f rfl (wC_exit (wQ_then_exit (wQ_then_exit (wQ_blk_same (wQ_blk_n (wQ_then (wC_region (vm ?_)))))))))
               refine vv (v := .int .i64 ((i + 1 : Nat) : Int)) (y_binop rfl rfl rfl (r_add (by omega) (by omega))) ?_
               refine va ?_
               refine qk [1, 2, 4, 9] ?_
               refine wQ_round (i + 1) ?_ ⟨rfl, rfl, rfl, rfl, trivial⟩ (by first | omega | (dsimp only; omega))
               exact ⟨(by omega), (fun a b x y hba hai hx hy => (Nat.lt_succ_iff_lt_or_eq.1 hai).elim (fun h => hi271 a b x y hba h hx hy) (fun h => by subst h; exact hi276 b x y (by omega) hx hy)), S274⟩
            ·refine vv (ylssF h272) ?_
             refine qk [1, 2, 4, 9, 165] ?_
             refine wQ_then (wC_cond_f rfl (wC_exit (wQ_then_exit (wQ_then_exit (wQ_blk_same (wQ_then (wC_seq (wC_region (va ?_)))))))))
             refine qk [1, 2] ?_
             refine x_te (pt ?_)
             exact ⟨ret_int_ (qf_ok (by unfold rngQ; omega) hW20 hR119 hL266 (nodup_of fun a b x y hba hx hy => hi271 a b x y hba (by have := (List.getElem?_eq_some_iff.1 hx).1; omega) hx hy)).symm, S269.low⟩
   ·refine calg en107 (In_f h8 _) ?_
    rintro _ w299 ⟨rfl, rfl⟩
    refine ⟨_, rfl, ?_⟩
    refine vg (v := .bool true) yno ?_
    refine vv ypF ?_
    refine vm ?_
    iterate 8 refine vs ?_
    refine vv ypT ?_
    refine qk [1, 2, 36] ?_
    refine x_tysr (va ?_)
    refine qk [1, 2] ?_
    refine x_teh (pt ?_)
    exact ⟨ret_int_ (qf_rng (by omega)).symm, S3.low⟩
  ·refine calg en107 (In_f h6 _) ?_
   rintro _ w300 ⟨rfl, rfl⟩
   refine ⟨_, rfl, ?_⟩
   refine vg (v := .bool true) yno ?_
   refine vv ypF ?_
   refine vm ?_
   iterate 4 refine vs ?_
   refine vv ypT ?_
   refine vm ?_
   iterate 8 refine vs ?_
   refine vv ypT ?_
   refine qk [1, 2, 36] ?_
   refine x_tysr (va ?_)
   refine qk [1, 2] ?_
   refine x_teh (pt ?_)
   exact ⟨ret_int_ (qf_rng (by omega)).symm, S3.low⟩
 ·refine cal en107 (In_f h4 _) ?_
  rintro _ w301 ⟨rfl, rfl⟩
  refine ⟨_, rfl, ?_⟩
  refine vv (v := .bool true) yno ?_
  refine vm ?_
  iterate 4 refine vs ?_
  refine vv ypT ?_
  refine vm ?_
  iterate 4 refine vs ?_
  refine vv ypT ?_
  refine vm ?_
  iterate 8 refine vs ?_
  refine vv ypT ?_
  refine qk [1, 2, 36] ?_
  refine x_tysr (va ?_)
  refine qk [1, 2] ?_
  refine x_teh (pt ?_)
  exact ⟨ret_int_ (qf_rng (by omega)).symm, S3.low⟩
end Go.Proofs.Ytkjlafpafmihaaa

namespace Go.Proofs.Ytkjlafpafmihaaa
open Go.ChangeShapes Go.WideShapes Go.RowKit

/-- A queue in memory of its own. -/
def QNew (w : World) (ep nx gv : Int) (rs : List Msg) (ls : List Ls) (W : Wins) (e : Ending) (w' : World) : Prop := ∃ A1 c1 A2 c2, e = .returned (.agg (qRow ep nx gv (.slice A1 rs.length c1) (.slice A2 ls.length c2) W)) ∧
  St w.heap.size w w' [.own 141 4 (.slice A2 ls.length c2) ls.length (ls.flatMap Ls.cells), .own 137 2 (.slice A1 rs.length c1) rs.length (rs.flatMap Msg.cells)]

set_option maxRecDepth 100000 in
set_option maxHeartbeats 4000000 in
theorem QueueCopy_calls (ep nx gv : Int) (A1 A2 : Option Addr) (c1 c2 : Nat) (rs : List Msg) (ls : List Ls) (W : Wins) (w : World) (h1 : Rd w w.heap.size 2 A1 rs.length (rs.flatMap Msg.cells)) (h2 : Rd w w.heap.size 4 A2 ls.length (ls.flatMap Ls.cells)) (hb1 : rs.length * 16 ≤ reachBytes) (hb2 : ls.length * 32 ≤ reachBytes) :
    Calls Try.prog 106 #[.agg (qRow ep nx gv (.slice A1 rs.length c1) (.slice A2 ls.length c2) W)] w (QNew w ep nx gv rs ls W) := by
 unfold reachBytes at hb1 hb2
 have S := ((St.start w).addRd h2).addRd h1
 refine fnw 44 Try.func106 ?_
 refine cw [0] ?_
 refine x_sr (nb (row := qRow ep nx gv (.slice A1 rs.length c1) (.slice A2 ls.length c2) W) S ?_); intro b1 w2 S3; clear S
 refine na (row := qRow 0 0 0 (.slice none 0 0) (.slice none 0 0) zeroWs) S3 Try.zeroValue29 ?_; intro b4 w5 S6; clear S3
 refine qk [1, 2] ?_
 refine x_tsr (vv (ylr 1 S6 Try.underlying29 inf29) ?_)
 refine na (row := qRow 0 0 0 (.slice none 0 0) (.slice none 0 0) zeroWs) S6 Try.zeroValue29 ?_; intro b7 w8 S9; clear S6
 refine saq 0 S9 inf29 ?_; intro w10 S11; clear S9
 refine qk [1, 2, 3] ?_
 refine x_tsr (vv (yfa 3 fa29_3) ?_)
 refine wL_st (cs := #[.slice none 0 0]) (row' := qRow ep nx gv (.slice none 0 0) (.slice A2 ls.length c2) W) (fs' := [.blk b7 (qRow ep nx gv (.slice none 0 0) (.slice A2 ls.length c2) W) 29, _, _, _, _]) 0 S11 (wn rfl) rfl rfl rfl rfl rfl rfl inf22 rfl (oneAll rfl) (Nat.le_of_ble_eq_true rfl) qRow_s3 rfl ?_; intro w12 S13; clear S11
 refine qk [1, 2, 3] ?_
 refine x_tsr (vv (yfa 4 fa29_4) ?_)
 refine wL_st (cs := #[.slice none 0 0]) (row' := qRow ep nx gv (.slice none 0 0) (.slice none 0 0) W) (fs' := [.blk b7 (qRow ep nx gv (.slice none 0 0) (.slice none 0 0) W) 29, _, _, _, _]) 0 S13 (wn rfl) rfl rfl rfl rfl rfl rfl inf23 rfl (oneAll rfl) (Nat.le_of_ble_eq_true rfl) qRow_s4 rfl ?_; intro w14 S15; clear S13
 refine qk [1, 2, 3] ?_
 refine x_tssr (va ?_)
 refine wL_nil (wQ_then (wC_block ?_))
 have S17 := S15.nil 137 2; clear S15
 change St _ _ _ [.own 137 2 (.slice none 0 0) 0 ((rs.take 0).flatMap Msg.cells), .blk b7 (qRow ep nx gv (.slice none 0 0) (.slice none 0 0) W) 29, .blk b4 (qRow 0 0 0 (.slice none 0 0) (.slice none 0 0) zeroWs) 29, .blk b1 (qRow ep nx gv (.slice A1 rs.length c1) (.slice A2 ls.length c2) W) 29, .rd 2 A1 rs.length ((rs).flatMap Msg.cells), .rd 4 A2 ls.length ((ls).flatMap Ls.cells)] at S17
 refine wC_loop (X := Nat × (Option Addr) × Nat) (fun xv => [(1, .pointer (some ⟨b1, 0, none⟩)), (2, .pointer (some ⟨b4, 0, none⟩)), (3, .pointer (some ⟨b7, 0, none⟩)), (4, .int .i64 ((xv.1 : Nat) : Int))]) (fun xv wr => (xv.1 ≤ rs.length) ∧ St w.heap.size w wr [.own 137 2 (.slice xv.2.1 xv.1 xv.2.2) xv.1 ((rs.take xv.1).flatMap Msg.cells), .blk b7 (qRow ep nx gv (.slice xv.2.1 xv.1 xv.2.2) (.slice none 0 0) W) 29, .blk b4 (qRow 0 0 0 (.slice none 0 0) (.slice none 0 0) zeroWs) 29, .blk b1 (qRow ep nx gv (.slice A1 rs.length c1) (.slice A2 ls.length c2) W) 29, .rd 2 A1 rs.length ((rs).flatMap Msg.cells), .rd 4 A2 ls.length ((ls).flatMap Ls.cells)]) (fun xv => rs.length - xv.1) (0, none, 0) ?_ ?_ ?_
 ·exact ⟨Nat.zero_le _, S17⟩
 ·exact ⟨rfl, rfl, rfl, rfl, trivial⟩
 ·rintro ⟨k, A9, c9⟩ w19 ⟨hi21, S20⟩
  try dsimp only at hi21 S20; clear S17
  refine cw [1, 2, 3, 4] ?_
  refine x_ssr (vm ?_)
  refine vv (yfa 3 fa29_3) ?_
  refine vv (y_load rfl rfl (r_load Try.underlying22 rfl (St.cl 3 S20 rfl qRow_g3))) ?_
  refine vv (v := .int .i64 ((rs.length : Nat) : Int)) (y_builtin (vs := [.slice A1 rs.length c1]) rfl ⟨rfl, trivial⟩ fun _ => r_len rfl Try.underlying22) ?_
  by_cases h22 : ((k : Nat) : Int) < ((rs.length : Nat) : Int)
  ·refine vv (ylssT h22) ?_
   refine qk [1, 2, 3, 4, 13] ?_
   refine wQ_then (wC_cond_t rfl (wC_skip (wQ_then (wC_seq (wC_block ?_)))))
   have S23 := S20.drew; clear S20
   refine wC_head (C := fun w' => St w.heap.size w w' [.blk b7 (qRow ep nx gv (.slice A9 k c9) (.slice none 0 0) W) 29, .blk b4 (qRow 0 0 0 (.slice none 0 0) (.slice none 0 0) zeroWs) 29, .blk b1 (qRow ep nx gv (.slice A1 rs.length c1) (.slice A2 ls.length c2) W) 29, .rd 2 A1 rs.length ((rs).flatMap Msg.cells), .rd 4 A2 ls.length ((ls).flatMap Ls.cells)]) (m := 11) (listed := #[false, false, false, false, false, false, false, false, false, false, false]) 9 mixed rfl rfl ?_
   refine gk (v := .pointer (some ⟨b7, 3, none⟩)) 0 rfl (St.del 0 S23) (fun _ _ => yfa _ fa29_3) ?_
   refine gk (v := .slice A9 k c9) 1 rfl (St.del 0 S23) (fun _ Sx25 => (y_load rfl rfl (r_load Try.underlying22 rfl (St.cl 0 Sx25 rfl qRow_g3)))) ?_
   refine gk (v := .pointer (some ⟨b1, 3, none⟩)) 2 rfl (St.del 0 S23) (fun _ _ => yfa _ fa29_3) ?_
   refine gk (v := .slice A1 rs.length c1) 3 rfl (St.del 0 S23) (fun _ Sx27 => (y_load rfl rfl (r_load Try.underlying22 rfl (St.cl 2 Sx27 rfl qRow_g3)))) ?_
   refine gk (v := .int .i64 ((k : Nat) : Int)) 4 rfl (St.del 0 S23) (fun _ _ => ym) ?_
   obtain ⟨b29, o30, rfl⟩ := Rd.addr (St.rd 4 S23 rfl) (by omega)
   obtain ⟨x31, hx32⟩ := elm k (St.rd 4 S23 rfl) (by omega)
   refine gk (v := .pointer (some ⟨b29, o30 + k * 2, none⟩)) 5 rfl (St.del 0 S23) (fun _ _ => (y_indexAddr rfl rfl rfl (r_indexAddr k Try.underlying22 inf137 (by omega) (by omega)))) ?_
   refine gk (v := .agg #[.int .i64 x31.no, .int .i64 x31.body]) 6 rfl (St.del 0 S23) (fun _ Sx34 => (y_load rfl rfl (r_load_agg (cs := Msg.cells x31) Try.underlying137 rfl inf137 rfl (Rd.rg2 (St.rd 3 Sx34 rfl) (fun _ _ h => fm_get (enc := Msg.cells) (sz := 2) (fun _ => rfl) hx32 h))))) ?_
   refine wG_one (m := 3) (r := 7) (by kernel_rfl) ?_
   refine wH_new (i := 7) rfl rfl (V := fun b => .slice (some ⟨b, 0, none⟩) 1 1) (row := #[.int .i64 x31.no, .int .i64 x31.body]) (t := 137) S23 (wn rfl) rfl rfl (d_buildSlice (vs := [(0, .agg #[.int .i64 x31.no, .int .i64 x31.body])]) rfl ⟨rfl, rfl, trivial⟩ (by kernel_rfl)) ?_; intro b35 w36 S37; clear S23
   refine ⟨(S37.dels [1, 0]), ?_⟩
   refine wG_one (m := 2) (r := 8) (by kernel_rfl) ?_
   refine wH_append (i := 8) rfl rfl (news := [.int .i64 x31.no, .int .i64 x31.body]) (xs' := (rs.take (k + 1)).flatMap Msg.cells) 1 S37 (wn rfl) rfl rfl rfl rfl rfl rfl (St.bld (xs := [.int .i64 x31.no, .int .i64 x31.body]) 0 S37 rfl rfl rfl) Try.underlying22 infz137 rfl (by decide) (oneAll rfl) (by simp only [maxLen]; omega) (by omega) (fm_snoc (enc := Msg.cells) (take_snoc_ hx32) rfl) ?_; intro A38 c39 w40 hc42 hm43 S41; clear S37
   change St _ _ _ [_, .own 137 2 (.slice A38 (k + 1) c39) (k + 1) ((rs.take (k + 1)).flatMap Msg.cells), _, _, _, _, _] at S41
   refine ⟨(S41.dels [1, 0]), ?_⟩
   refine wG_tail (by kernel_rfl) rfl rfl rfl ?_
   refine vv (yfa 3 fa29_3) ?_
   refine wL_st (cs := #[.slice A38 (k + 1) c39]) (row' := qRow ep nx gv (.slice A38 (k + 1) c39) (.slice none 0 0) W) (fs' := [_, _, .blk b7 (qRow ep nx gv (.slice A38 (k + 1) c39) (.slice none 0 0) W) 29, _, _, _, _]) 2 S41 (wn rfl) rfl rfl rfl rfl rfl rfl inf22 rfl (oneAll rfl) (Nat.le_of_ble_eq_true rfl) qRow_s3 rfl ?_; intro w44 S45; clear S41
   refine wL_nil (wQ_np ?_)
   refine pk [1, 2, 3, 4] ?_
   refine wQ_blk_n (wQ_then (wC_region (vm ?_)))
   refine vv (v := .int .i64 ((k + 1 : Nat) : Int)) (y_binop rfl rfl rfl (r_add (by omega) (by omega))) ?_
   refine va ?_
   refine qk [1, 2, 3, 4] ?_
   have S46 : St _ _ _ [_, _, _, _, _, _] := S45.dels [0]; clear S45
   refine wQ_round (k + 1, A38, c39) ?_ ⟨rfl, rfl, rfl, rfl, trivial⟩ (by first | omega | (dsimp only; omega))
   exact ⟨(by dsimp only; omega), S46⟩
  ·refine vv (ylssF h22) ?_
   refine qk [1, 2, 3, 4, 13] ?_
   refine wQ_then (wC_cond_f rfl (wC_exit (wQ_then_exit (wQ_then_exit (wQ_blk_same (wQ_then (wC_seq (wC_seq (wC_region (va ?_))))))))))
   refine qk [1, 2, 3, 5] ?_
   refine wQ_then (wC_block ?_)
   obtain rfl : k = rs.length := by omega
   have S47 := S20; clear S20
   rw [List.take_length] at S47
   change St _ _ _ [.own 137 2 (.slice A9 rs.length c9) rs.length ((rs).flatMap Msg.cells), .blk b7 (qRow ep nx gv (.slice A9 rs.length c9) (.slice none 0 0) W) 29, .blk b4 (qRow 0 0 0 (.slice none 0 0) (.slice none 0 0) zeroWs) 29, .blk b1 (qRow ep nx gv (.slice A1 rs.length c1) (.slice A2 ls.length c2) W) 29, .rd 2 A1 rs.length ((rs).flatMap Msg.cells), .rd 4 A2 ls.length ((ls).flatMap Ls.cells)] at S47
   have S48 := S47.nil 141 4; clear S47
   change St _ _ _ [.own 141 4 (.slice none 0 0) 0 ((ls.take 0).flatMap Ls.cells), .own 137 2 (.slice A9 rs.length c9) rs.length ((rs).flatMap Msg.cells), .blk b7 (qRow ep nx gv (.slice A9 rs.length c9) (.slice none 0 0) W) 29, .blk b4 (qRow 0 0 0 (.slice none 0 0) (.slice none 0 0) zeroWs) 29, .blk b1 (qRow ep nx gv (.slice A1 rs.length c1) (.slice A2 ls.length c2) W) 29, .rd 2 A1 rs.length ((rs).flatMap Msg.cells), .rd 4 A2 ls.length ((ls).flatMap Ls.cells)] at S48
   refine wC_loop (X := Nat × (Option Addr) × Nat) (fun xv => [(1, .pointer (some ⟨b1, 0, none⟩)), (2, .pointer (some ⟨b4, 0, none⟩)), (3, .pointer (some ⟨b7, 0, none⟩)), (5, .int .i64 ((xv.1 : Nat) : Int))]) (fun xv wr => (xv.1 ≤ ls.length) ∧ St w.heap.size w wr [.own 141 4 (.slice xv.2.1 xv.1 xv.2.2) xv.1 ((ls.take xv.1).flatMap Ls.cells), .own 137 2 (.slice A9 rs.length c9) rs.length ((rs).flatMap Msg.cells), .blk b7 (qRow ep nx gv (.slice A9 rs.length c9) (.slice xv.2.1 xv.1 xv.2.2) W) 29, .blk b4 (qRow 0 0 0 (.slice none 0 0) (.slice none 0 0) zeroWs) 29, .blk b1 (qRow ep nx gv (.slice A1 rs.length c1) (.slice A2 ls.length c2) W) 29, .rd 2 A1 rs.length ((rs).flatMap Msg.cells), .rd 4 A2 ls.length ((ls).flatMap Ls.cells)]) (fun xv => ls.length - xv.1) (0, none, 0) ?_ ?_ ?_
   ·exact ⟨Nat.zero_le _, S48⟩
   ·exact ⟨rfl, rfl, rfl, rfl, trivial⟩
   ·rintro ⟨k, Ab, cb⟩ w50 ⟨hi52, S51⟩
    try dsimp only at hi52 S51; clear S48
    refine cw [1, 2, 3, 5] ?_
    refine x_ssr (vm ?_)
    refine vv (yfa 4 fa29_4) ?_
    refine vv (y_load rfl rfl (r_load Try.underlying23 rfl (St.cl 4 S51 rfl qRow_g4))) ?_
    refine vv (v := .int .i64 ((ls.length : Nat) : Int)) (y_builtin (vs := [.slice A2 ls.length c2]) rfl ⟨rfl, trivial⟩ fun _ => r_len rfl Try.underlying23) ?_
    by_cases h53 : ((k : Nat) : Int) < ((ls.length : Nat) : Int)
    ·refine vv (ylssT h53) ?_
     refine qk [1, 2, 3, 5, 30] ?_
     refine wQ_then (wC_cond_t rfl (wC_skip (wQ_then (wC_seq (wC_block ?_)))))
     have S54 := S51.drew; clear S51
     refine wC_head (C := fun w' => St w.heap.size w w' [.own 137 2 (.slice A9 rs.length c9) rs.length ((rs).flatMap Msg.cells), .blk b7 (qRow ep nx gv (.slice A9 rs.length c9) (.slice Ab k cb) W) 29, .blk b4 (qRow 0 0 0 (.slice none 0 0) (.slice none 0 0) zeroWs) 29, .blk b1 (qRow ep nx gv (.slice A1 rs.length c1) (.slice A2 ls.length c2) W) 29, .rd 2 A1 rs.length ((rs).flatMap Msg.cells), .rd 4 A2 ls.length ((ls).flatMap Ls.cells)]) (m := 11) (listed := #[false, false, false, false, false, false, false, false, false, false, false]) 9 mixed rfl rfl ?_
     refine gk (v := .pointer (some ⟨b7, 4, none⟩)) 0 rfl (St.del 0 S54) (fun _ _ => yfa _ fa29_4) ?_
     refine gk (v := .slice Ab k cb) 1 rfl (St.del 0 S54) (fun _ Sx56 => (y_load rfl rfl (r_load Try.underlying23 rfl (St.cl 1 Sx56 rfl qRow_g4)))) ?_
     refine gk (v := .pointer (some ⟨b1, 4, none⟩)) 2 rfl (St.del 0 S54) (fun _ _ => yfa _ fa29_4) ?_
     refine gk (v := .slice A2 ls.length c2) 3 rfl (St.del 0 S54) (fun _ Sx58 => (y_load rfl rfl (r_load Try.underlying23 rfl (St.cl 3 Sx58 rfl qRow_g4)))) ?_
     refine gk (v := .int .i64 ((k : Nat) : Int)) 4 rfl (St.del 0 S54) (fun _ _ => ym) ?_
     obtain ⟨b60, o61, rfl⟩ := Rd.addr (St.rd 6 S54 rfl) (by omega)
     obtain ⟨x62, hx63⟩ := elm k (St.rd 6 S54 rfl) (by omega)
     refine gk (v := .pointer (some ⟨b60, o61 + k * 4, none⟩)) 5 rfl (St.del 0 S54) (fun _ _ => (y_indexAddr rfl rfl rfl (r_indexAddr k Try.underlying23 inf141 (by omega) (by omega)))) ?_
     refine gk (v := .agg #[.int .i64 x62.hep, .int .i64 x62.hno, .int .i64 x62.msg.no, .int .i64 x62.msg.body]) 6 rfl (St.del 0 S54) (fun _ Sx65 => (y_load rfl rfl (r_load_agg (cs := Ls.cells x62) Try.underlying141 rfl inf141 rfl (Rd.rg2 (St.rd 5 Sx65 rfl) (fun _ _ h => fm_get (enc := Ls.cells) (sz := 4) (fun _ => rfl) hx63 h))))) ?_
     refine wG_one (m := 3) (r := 7) (by kernel_rfl) ?_
     refine wH_new (i := 7) rfl rfl (V := fun b => .slice (some ⟨b, 0, none⟩) 1 1) (row := #[.int .i64 x62.hep, .int .i64 x62.hno, .int .i64 x62.msg.no, .int .i64 x62.msg.body]) (t := 141) S54 (wn rfl) rfl rfl (d_buildSlice (vs := [(0, .agg #[.int .i64 x62.hep, .int .i64 x62.hno, .int .i64 x62.msg.no, .int .i64 x62.msg.body])]) rfl ⟨rfl, rfl, trivial⟩ (by kernel_rfl)) ?_; intro b66 w67 S68; clear S54
     refine ⟨(S68.dels [1, 0]), ?_⟩
     refine wG_one (m := 2) (r := 8) (by kernel_rfl) ?_
     refine wH_append (i := 8) rfl rfl (news := [.int .i64 x62.hep, .int .i64 x62.hno, .int .i64 x62.msg.no, .int .i64 x62.msg.body]) (xs' := (ls.take (k + 1)).flatMap Ls.cells) 1 S68 (wn rfl) rfl rfl rfl rfl rfl rfl (St.bld (xs := [.int .i64 x62.hep, .int .i64 x62.hno, .int .i64 x62.msg.no, .int .i64 x62.msg.body]) 0 S68 rfl rfl rfl) Try.underlying23 infz141 rfl (by decide) (oneAll rfl) (by simp only [maxLen]; omega) (by omega) (fm_snoc (enc := Ls.cells) (take_snoc_ hx63) rfl) ?_; intro A69 c70 w71 hc73 hm74 S72; clear S68
     change St _ _ _ [_, .own 141 4 (.slice A69 (k + 1) c70) (k + 1) ((ls.take (k + 1)).flatMap Ls.cells), _, _, _, _, _, _] at S72
     refine ⟨(S72.dels [1, 0]), ?_⟩
     refine wG_tail (by kernel_rfl) rfl rfl rfl ?_
     refine vv (yfa 4 fa29_4) ?_
     refine wL_st (cs := #[.slice A69 (k + 1) c70]) (row' := qRow ep nx gv (.slice A9 rs.length c9) (.slice A69 (k + 1) c70) W) (fs' := [_, _, _, .blk b7 (qRow ep nx gv (.slice A9 rs.length c9) (.slice A69 (k + 1) c70) W) 29, _, _, _, _]) 3 S72 (wn rfl) rfl rfl rfl rfl rfl rfl inf23 rfl (oneAll rfl) (Nat.le_of_ble_eq_true rfl) qRow_s4 rfl ?_; intro w75 S76; clear S72
     refine wL_nil (wQ_np ?_)
     refine pk [1, 2, 3, 5] ?_
     refine wQ_blk_n (wQ_then (wC_region (vm ?_)))
     refine vv (v := .int .i64 ((k + 1 : Nat) : Int)) (y_binop rfl rfl rfl (r_add (by omega) (by omega))) ?_
     refine va ?_
     refine qk [1, 2, 3, 5] ?_
     have S77 : St _ _ _ [_, _, _, _, _, _, _] := S76.dels [0]; clear S76
     refine wQ_round (k + 1, A69, c70) ?_ ⟨rfl, rfl, rfl, rfl, trivial⟩ (by first | omega | (dsimp only; omega))
     exact ⟨(by dsimp only; omega), S77⟩
    ·refine vv (ylssF h53) ?_
     refine qk [1, 2, 3, 5, 30] ?_
     refine wQ_then (wC_cond_f rfl (wC_exit (wQ_then_exit (wQ_then_exit (wQ_blk_same (wQ_then (wC_seq (wC_region ?_))))))))
     obtain rfl : k = ls.length := by omega
     have S78 := S51; clear S51
     rw [List.take_length] at S78
     change St _ _ _ [.own 141 4 (.slice Ab ls.length cb) ls.length ((ls).flatMap Ls.cells), .own 137 2 (.slice A9 rs.length c9) rs.length ((rs).flatMap Msg.cells), .blk b7 (qRow ep nx gv (.slice A9 rs.length c9) (.slice Ab ls.length cb) W) 29, .blk b4 (qRow 0 0 0 (.slice none 0 0) (.slice none 0 0) zeroWs) 29, .blk b1 (qRow ep nx gv (.slice A1 rs.length c1) (.slice A2 ls.length c2) W) 29, .rd 2 A1 rs.length ((rs).flatMap Msg.cells), .rd 4 A2 ls.length ((ls).flatMap Ls.cells)] at S78
     refine vv (ylr 2 S78 Try.underlying29 inf29) ?_
     refine saq 3 S78 inf29 ?_; intro w79 S80; clear S78
     refine qk [2] ?_
     refine x_te (wQ_post (rs := [.cell 2 29]) (vs := [.agg (qRow ep nx gv (.slice A9 rs.length c9) (.slice Ab ls.length cb) W)]) rfl ⟨⟨_, rfl, res_row 3 S80 rfl Try.underlying29 rfl inf29⟩, trivial⟩ ?_)
     have S81 : St _ _ _ [_, _] := S80.dels [6, 5, 4, 3, 2]; clear S80
     exact ⟨_, _, _, _, rfl, S81⟩
end Go.Proofs.Ytkjlafpafmihaaa

namespace Go.Proofs.Ytkjlafpafmihaaa
open Go.ChangeShapes Go.WideShapes Go.RowKit

theorem sameEvents_t {A A' : Option Addr} {n c c' : Nat} {l : List Ev} {w : World} {B B' : Nat} (h : Rd w B 6 A n (evCells l)) (h' : Rd w B' 6 A' n (evCells l)) (hm : n ≤ maxLen) (hm' : n ≤ maxLen) : Calls Try.prog 72 #[.slice A n c, .slice A' n c'] w (BoolB w true) := by
  refine (sameEvents_calls A A' n c n c' l l w h h' hm hm').mono ?_
  rintro e w' ⟨rfl, q, rfl⟩
  exact ⟨by simp, ⟨rfl, rfl, rfl, Nat.le_refl _, fun _ _ => rfl⟩⟩

end Go.Proofs.Ytkjlafpafmihaaa

