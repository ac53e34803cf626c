/- A queue as data: messages, leases, four windows; its row of 41 cells. -/
import Derived.Test.YtkjlafpafmihaaaTy
import Derived.Test.YtkjlafpafmihaaaWinTaken
import Derived.Test.YtkjlafpafmihaaaWinTake
namespace Go.Proofs.Ytkjlafpafmihaaa
open Go.ChangeShapes Go.WideShapes Go.RowKit

structure Msg where
  no : Int
  body : Int
  deriving DecidableEq
structure Ls where
  hep : Int
  hno : Int
  msg : Msg
  deriving DecidableEq
structure Wins where
  a : Win
  b : Win
  c : Win
  d : Win
  deriving DecidableEq
structure Qd where
  ep : Int
  nx : Int
  gv : Int
  ready : List Msg
  leases : List Ls
  ws : Wins
  deriving DecidableEq
def Msg.cells (m : Msg) : List Value := [.int .i64 m.no, .int .i64 m.body]
def Ls.cells (x : Ls) : List Value := [.int .i64 x.hep, .int .i64 x.hno, .int .i64 x.msg.no, .int .i64 x.msg.body]
def Wins.cells (x : Wins) : List Value := x.a.cells ++ (x.b.cells ++ (x.c.cells ++ x.d.cells))
def Wins.at (x : Wins) (p : Nat) : Win := if p = 0 then x.a else if p = 1 then x.b else if p = 2 then x.c else x.d
def Wins.put (x : Wins) (p : Nat) (y : Win) : Wins := if p = 0 then { x with a := y } else if p = 1 then { x with b := y } else if p = 2 then { x with c := y } else { x with d := y }
theorem Wins.len (x : Wins) : x.cells.length = 36 := rfl
theorem Win.len (x : Win) : x.cells.length = 9 := rfl
/-- A queue's cells; r, l: its two slices. -/
def qRow (e n g : Int) (r l : Value) (W : Wins) : Array Value := (.int .i64 e :: .int .i64 n :: .int .i64 g :: r :: l :: W.cells).toArray

def zeroWs : Wins := ⟨zeroWin, zeroWin, zeroWin, zeroWin⟩
section
variable {e n g : Int} {r l : Value} {W : Wins}
theorem qRow_size : (qRow e n g r l W).size = 41 := rfl
theorem qRow_g0 : (qRow e n g r l W)[0]? = some (.int .i64 e) := rfl
theorem qRow_g1 : (qRow e n g r l W)[1]? = some (.int .i64 n) := rfl
theorem qRow_g2 : (qRow e n g r l W)[2]? = some (.int .i64 g) := rfl
theorem qRow_g3 : (qRow e n g r l W)[3]? = some r := rfl
theorem qRow_g4 : (qRow e n g r l W)[4]? = some l := rfl
theorem qRow_ws : ∀ (j : Nat) (u : Value), W.cells[j]? = some u → (qRow e n g r l W)[5 + j]? = some u := sub_row (m := 36) rfl
theorem qRow_w0 : ∀ (j : Nat) (u : Value), (W.at 0).cells[j]? = some u → (qRow e n g r l W)[5 + j]? = some u := sub_row (m := 9) rfl
theorem qRow_w1 : ∀ (j : Nat) (u : Value), (W.at 1).cells[j]? = some u → (qRow e n g r l W)[14 + j]? = some u := sub_row (m := 9) rfl
theorem qRow_w2 : ∀ (j : Nat) (u : Value), (W.at 2).cells[j]? = some u → (qRow e n g r l W)[23 + j]? = some u := sub_row (m := 9) rfl
theorem qRow_w3 : ∀ (j : Nat) (u : Value), (W.at 3).cells[j]? = some u → (qRow e n g r l W)[32 + j]? = some u := sub_row (m := 9) rfl
theorem qRow_s0 {z : Int} : setAll (qRow e n g r l W) 0 [.int .i64 z] = qRow z n g r l W := rfl
theorem qRow_s1 {z : Int} : setAll (qRow e n g r l W) 1 [.int .i64 z] = qRow e z g r l W := rfl
theorem qRow_s2 {z : Int} : setAll (qRow e n g r l W) 2 [.int .i64 z] = qRow e n z r l W := rfl
theorem qRow_s3 {z : Value} : setAll (qRow e n g r l W) 3 [z] = qRow e n g z l W := rfl
theorem qRow_s4 {z : Value} : setAll (qRow e n g r l W) 4 [z] = qRow e n g r z W := rfl
theorem qRow_p0 {x : Win} : setAll (qRow e n g r l W) 5 x.cells = qRow e n g r l (W.put 0 x) := by
  apply Array.toList_inj.1
  rw [setAll_list _ _ _ (by rw [qRow_size, Win.len]; omega)]
  rfl
theorem qRow_p1 {x : Win} : setAll (qRow e n g r l W) 14 x.cells = qRow e n g r l (W.put 1 x) := by
  apply Array.toList_inj.1
  rw [setAll_list _ _ _ (by rw [qRow_size, Win.len]; omega)]
  rfl
theorem qRow_p2 {x : Win} : setAll (qRow e n g r l W) 23 x.cells = qRow e n g r l (W.put 2 x) := by
  apply Array.toList_inj.1
  rw [setAll_list _ _ _ (by rw [qRow_size, Win.len]; omega)]
  rfl
theorem qRow_p3 {x : Win} : setAll (qRow e n g r l W) 32 x.cells = qRow e n g r l (W.put 3 x) := by
  apply Array.toList_inj.1
  rw [setAll_list _ _ _ (by rw [qRow_size, Win.len]; omega)]
  rfl
theorem win_one (x : Win) : ∀ u ∈ x.cells, u.oneCell' = true := oneAll rfl
theorem wins_one (x : Wins) : ∀ u ∈ x.cells, u.oneCell' = true := oneAll rfl
theorem qRow_one (hr : r.oneCell' = true) (hl : l.oneCell' = true) : ∀ u ∈ (qRow e n g r l W).toList, u.oneCell' = true := by
  intro u hu
  simp only [qRow, List.mem_cons] at hu
  rcases hu with rfl | rfl | rfl | rfl | rfl | hu
  · rfl
  · rfl
  · rfl
  · exact hr
  · exact hl
  · exact wins_one W u hu
end
def IPost (w : World) (k : Int) (e : Ending) (w' : World) : Prop := e = .returned (.int .i64 k) ∧ Below w.heap.size w w'
def BoolB (w : World) (b : Bool) (e : Ending) (w' : World) : Prop := e = .returned (.bool b) ∧ Below w.heap.size w w'

/-- P4.1. -/
def msgOk (nx : Int) (m : Msg) : Bool := decide (0 ≤ m.no ∧ m.no < nx ∧ 0 ≤ m.body ∧ m.body ≤ 1000000)
theorem msgOk_of {nx : Int} {m : Msg} (h : msgOk nx m = true) : 0 ≤ m.no ∧ m.no < nx ∧ 0 ≤ m.body ∧ m.body ≤ 1000000 := of_decide_eq_true h
theorem msgOk_no {nx : Int} {m : Msg} (h : ¬ (0 ≤ m.no ∧ m.no < nx ∧ 0 ≤ m.body ∧ m.body ≤ 1000000)) : msgOk nx m = false := decide_eq_false h
def rdyFrom (nx : Int) : Int → List Msg → Bool
  | _, [] => true
  | p, m :: r => (msgOk nx m && decide (p < m.no)) && rdyFrom nx m.no r
def lsOk (ep nx gv p : Int) (x : Ls) : Bool := msgOk nx x.msg && decide (x.hep = ep ∧ p < x.hno ∧ x.hno < gv)
def lsFrom (ep nx gv : Int) : Int → List Ls → Bool
  | _, [] => true
  | p, x :: r => lsOk ep nx gv p x && lsFrom ep nx gv x.hno r
def nosOf (rs : List Msg) (ls : List Ls) : List Int := rs.map (·.no) ++ ls.map (·.msg.no)
def rngQ (ep nx gv : Int) (rs : List Msg) (ls : List Ls) : Prop := 0 ≤ ep ∧ ep ≤ 1048576 ∧ 0 ≤ nx ∧ nx ≤ 1073741824 ∧ 0 ≤ gv ∧ gv ≤ 1073741824 ∧ rs.length + ls.length ≤ 500
def winsOk (W : Wins) : Prop := ∀ j, j < 4 → winFault (W.at j) = 0
open Classical in
noncomputable def queueFault (ep nx gv : Int) (rs : List Msg) (ls : List Ls) (W : Wins) : Int :=
  if ¬ rngQ ep nx gv rs ls then 6 else if ¬ winsOk W then 6 else if rdyFrom nx (-1) rs = true ∧ lsFrom ep nx gv (-1) ls = true ∧ (nosOf rs ls).Nodup then 0 else 6
section
variable {ep nx gv p : Int} {rs : List Msg} {ls : List Ls} {W : Wins}
theorem qf_rng (h : ¬ (0 ≤ ep ∧ ep ≤ 1048576 ∧ 0 ≤ nx ∧ nx ≤ 1073741824 ∧ 0 ≤ gv ∧ gv ≤ 1073741824 ∧ rs.length + ls.length ≤ 500)) : queueFault ep nx gv rs ls W = 6 := if_pos h
theorem qf_bad (h : ¬ (winsOk W ∧ rdyFrom nx (-1) rs = true ∧ lsFrom ep nx gv (-1) ls = true ∧ (nosOf rs ls).Nodup)) : queueFault ep nx gv rs ls W = 6 := by
  unfold queueFault
  split
  · rfl
  · split
    · rfl
    · rename_i h1 h2
      rw [if_neg (fun h3 => h ⟨Classical.not_not.1 h2, h3⟩)]
theorem qf_win {j : Nat} (hj : j < 4) (h : winFault (W.at j) ≠ 0) : queueFault ep nx gv rs ls W = 6 := qf_bad fun h1 => h (h1.1 j hj)
theorem qf_ok (h0 : rngQ ep nx gv rs ls) (h1 : winsOk W) (h2 : rdyFrom nx (-1) rs = true) (h3 : lsFrom ep nx gv (-1) ls = true) (h4 : (nosOf rs ls).Nodup) : queueFault ep nx gv rs ls W = 0 := by
  unfold queueFault
  rw [if_neg (fun h => h h0), if_neg (fun h => h h1), if_pos ⟨h2, h3, h4⟩]
theorem rdy_step {k : Nat} {m : Msg} (h : rs[k]? = some m) : rdyFrom nx p (rs.drop k) = ((msgOk nx m && decide (p < m.no)) && rdyFrom nx m.no (rs.drop (k + 1))) := by
  obtain ⟨hk, hm⟩ := List.getElem?_eq_some_iff.1 h
  rw [List.drop_eq_getElem_cons hk, hm]
  rfl
theorem ls_step {k : Nat} {x : Ls} (h : ls[k]? = some x) : lsFrom ep nx gv p (ls.drop k) = (lsOk ep nx gv p x && lsFrom ep nx gv x.hno (ls.drop (k + 1))) := by
  obtain ⟨hk, hm⟩ := List.getElem?_eq_some_iff.1 h
  rw [List.drop_eq_getElem_cons hk, hm]
  rfl
theorem take_map {α β : Type} {f : α → β} {l : List α} {k : Nat} {x : α} (h : l[k]? = some x) : (l.take k).map f ++ [f x] = (l.take (k + 1)).map f := by
  rw [List.take_add_one, h]
  simp
theorem winF_or (x : Win) : winFault x = 0 ∨ winFault x = 6 := by unfold winFault; split <;> simp
end
theorem wins_index0 (W : Wins) (w : World) : (Instr.index 27 (.agg W.cells.toArray) (.int .i64 0)).run Try.prog w = .ok (.agg (W.at 0).cells.toArray) w := by kernel_rfl
theorem wins_index1 (W : Wins) (w : World) : (Instr.index 27 (.agg W.cells.toArray) (.int .i64 1)).run Try.prog w = .ok (.agg (W.at 1).cells.toArray) w := by kernel_rfl
theorem wins_index2 (W : Wins) (w : World) : (Instr.index 27 (.agg W.cells.toArray) (.int .i64 2)).run Try.prog w = .ok (.agg (W.at 2).cells.toArray) w := by kernel_rfl
theorem wins_index3 (W : Wins) (w : World) : (Instr.index 27 (.agg W.cells.toArray) (.int .i64 3)).run Try.prog w = .ok (.agg (W.at 3).cells.toArray) w := by kernel_rfl
theorem wins_index (W : Wins) (k : Nat) (hk : k < 4) (w : World) : (Instr.index 27 (.agg W.cells.toArray) (.int .i64 k)).run Try.prog w = .ok (.agg (W.at k).cells.toArray) w := by
  have h : k = 0 ∨ k = 1 ∨ k = 2 ∨ k = 3 := by omega
  rcases h with rfl | rfl | rfl | rfl
  · exact wins_index0 W w
  · exact wins_index1 W w
  · exact wins_index2 W w
  · exact wins_index3 W w
theorem qRow_wk {e n g : Int} {r l : Value} {W : Wins} {k : Nat} (hk : k < 4) : ∀ (j : Nat) (u : Value), (W.at k).cells[j]? = some u → (qRow e n g r l W)[5 + k * 9 + j]? = some u := by
  have h : k = 0 ∨ k = 1 ∨ k = 2 ∨ k = 3 := by omega
  rcases h with rfl | rfl | rfl | rfl
  · exact qRow_w0
  · exact qRow_w1
  · exact qRow_w2
  · exact qRow_w3
def oneI (z : Int) : List Value := [.int .i64 z]
theorem ints_one (l : List Int) : ∀ u ∈ l.flatMap oneI, u.oneCell' = true := by
  intro u hu
  rw [List.mem_flatMap] at hu
  obtain ⟨z, _, hz⟩ := hu
  simp [oneI] at hz
  subst hz
  rfl
theorem fm_snoc {α : Type} {enc : α → List Value} {l l' : List α} {x : α} {cs : List Value} (h : l ++ [x] = l') (he : enc x = cs) : l.flatMap enc ++ cs = l'.flatMap enc := by
  subst h
  subst he
  simp
theorem In_t {n lo hi : Int} (h : lo ≤ n ∧ n ≤ hi) (w : World) : Calls Try.prog 107 #[.int .i64 n, .int .i64 lo, .int .i64 hi] w fun e w' => e = .returned (.bool true) ∧ w = w' := by
  have := In_calls n lo hi w
  rw [show inR n lo hi = true by simp [inR, h.1, h.2]] at this
  exact this
theorem In_f {n lo hi : Int} (h : ¬ (lo ≤ n ∧ n ≤ hi)) (w : World) : Calls Try.prog 107 #[.int .i64 n, .int .i64 lo, .int .i64 hi] w fun e w' => e = .returned (.bool false) ∧ w = w' := by
  have := In_calls n lo hi w
  rw [show inR n lo hi = false by simp [inR]; omega] at this
  exact this
theorem msgOk_yes {nx : Int} {m : Msg} (h : 0 ≤ m.no ∧ m.no < nx ∧ 0 ≤ m.body ∧ m.body ≤ 1000000) : msgOk nx m = true := decide_eq_true h
def prevNo (rs : List Msg) (k : Nat) : Int := if k = 0 then -1 else match rs[k - 1]? with | some m => m.no | none => -1
def prevH (ls : List Ls) (k : Nat) : Int := if k = 0 then -1 else match ls[k - 1]? with | some m => m.hno | none => -1
section
variable {ep nx gv p : Int} {rs : List Msg} {ls : List Ls} {k : Nat}
theorem prevNo_zero (h : ¬ (0 : Int) < ((k : Nat) : Int)) : prevNo rs k = -1 := if_pos (by omega)
theorem prevNo_pos {y : Msg} (h : (0 : Int) < ((k : Nat) : Int)) (hy : rs[k - 1]? = some y) : prevNo rs k = y.no := by unfold prevNo; rw [if_neg (by omega), hy]
theorem prevNo_succ {x : Msg} (hx : rs[k]? = some x) : prevNo rs (k + 1) = x.no := by unfold prevNo; rw [if_neg (by omega), Nat.add_sub_cancel, hx]
theorem prevH_zero (h : ¬ (0 : Int) < ((k : Nat) : Int)) : prevH ls k = -1 := if_pos (by omega)
theorem prevH_pos {y : Ls} (h : (0 : Int) < ((k : Nat) : Int)) (hy : ls[k - 1]? = some y) : prevH ls k = y.hno := by unfold prevH; rw [if_neg (by omega), hy]
theorem prevH_succ {x : Ls} (hx : ls[k]? = some x) : prevH ls (k + 1) = x.hno := by unfold prevH; rw [if_neg (by omega), Nat.add_sub_cancel, hx]
theorem rdy_no {x : Msg} (hi : rdyFrom nx (-1) rs = rdyFrom nx p (rs.drop k)) (hx : rs[k]? = some x) (h : ¬ (msgOk nx x = true ∧ p < x.no)) : rdyFrom nx (-1) rs ≠ true := by
  rw [hi, rdy_step hx]
  intro h2
  simp only [Bool.and_eq_true, decide_eq_true_eq] at h2
  exact h h2.1
theorem rdy_yes {x : Msg} (hi : rdyFrom nx (-1) rs = rdyFrom nx p (rs.drop k)) (hx : rs[k]? = some x) (h1 : msgOk nx x = true) (h2 : p < x.no) : rdyFrom nx (-1) rs = rdyFrom nx x.no (rs.drop (k + 1)) := by
  rw [hi, rdy_step hx, h1, decide_eq_true h2]
  rfl
theorem ls_no {x : Ls} (hi : lsFrom ep nx gv (-1) ls = lsFrom ep nx gv p (ls.drop k)) (hx : ls[k]? = some x) (h : ¬ (msgOk nx x.msg = true ∧ x.hep = ep ∧ p < x.hno ∧ x.hno < gv)) : lsFrom ep nx gv (-1) ls ≠ true := by
  rw [hi, ls_step hx, lsOk]
  intro h2
  simp only [Bool.and_eq_true, decide_eq_true_eq] at h2
  exact h h2.1
theorem ls_yes {x : Ls} (hi : lsFrom ep nx gv (-1) ls = lsFrom ep nx gv p (ls.drop k)) (hx : ls[k]? = some x) (h1 : msgOk nx x.msg = true) (h2 : x.hep = ep ∧ p < x.hno ∧ x.hno < gv) : lsFrom ep nx gv (-1) ls = lsFrom ep nx gv x.hno (ls.drop (k + 1)) := by
  rw [hi, ls_step hx, lsOk, h1, decide_eq_true h2]
  rfl
end
theorem nodup_of {ns : List Int} (h : ∀ (i k : Nat) (x y : Int), k < i → ns[i]? = some x → ns[k]? = some y → x ≠ y) : ns.Nodup := by
  unfold List.Nodup
  rw [List.pairwise_iff_getElem]
  intro i j hi hj hij e
  exact h j i _ _ hij (List.getElem?_eq_getElem hj) (List.getElem?_eq_getElem hi) e.symm
theorem not_nodup {ns : List Int} {i k : Nat} {x y : Int} (hk : k < i) (hx : ns[i]? = some x) (hy : ns[k]? = some y) (e : x = y) : ¬ ns.Nodup := by
  intro h
  unfold List.Nodup at h
  rw [List.pairwise_iff_getElem] at h
  obtain ⟨h1, h2⟩ := List.getElem?_eq_some_iff.1 hx
  obtain ⟨h3, h4⟩ := List.getElem?_eq_some_iff.1 hy
  exact h k i h3 h1 hk (by rw [h2, h4, e])
end Go.Proofs.Ytkjlafpafmihaaa
