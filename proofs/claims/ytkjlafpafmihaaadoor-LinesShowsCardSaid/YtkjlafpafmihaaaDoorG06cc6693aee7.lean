/- Parts of proofs: lemmas on memory, on single functions and on the plain models; no condition of their own. -/
import Derived.Test.YtkjlafpafmihaaaDoorRows
import Derived.WalkKit
import Derived.ProofKit
import Derived.OpenShut
import Derived.SizedLaws
import Derived.WalkSpells
import Derived.WalkLawsBesides
import Derived.Handy
import Derived.Deep.QuietTactic
import Derived.BigQuiet
import Derived.Lib.Hide
import Derived.Maps.AppendAt
import Derived.Deep.AppendLies
import Derived.RegionTactic
import Derived.OwnWalk
import Derived.Laws.Tables
import Derived.Deep.MidRow
import Derived.StillTailTactics
import Derived.OrdersHeld
import Derived.Deep.RegionHeld3
import Derived.Laws.IdiomCopy
import Derived.ChangeKeysEq
import Derived.Laws.BitsAllLaws
import Derived.Scope
import Derived.Lib.AppendStr
import Derived.Lib.ItoaLen
import Derived.Lib.BufferRead
import Derived.Laws.IdiomStrings
import Derived.Lib.Builder
import Derived.Shelf.Strings.Builder1
import Derived.Shelf.LaysM
import Derived.Shelf.Strconv.Itoa3
import Derived.Lib.ItoaMem
import Derived.Lib.AppendIntMem
import Derived.Lib.QuietBelow
import Derived.Test.YtkjlafpafmihaaaDoorG12ec74731733
import Derived.Test.YtkjlafpafmihaaaDoorG13d15b29086a
import Derived.Test.YtkjlafpafmihaaaDoorG29a9d8cef57c
import Derived.Test.YtkjlafpafmihaaaDoorG536627dfcf89
import Derived.Test.YtkjlafpafmihaaaDoorG5e893203608a
import Derived.Test.YtkjlafpafmihaaaDoorG85f99d501c23
import Derived.Test.YtkjlafpafmihaaaDoorG8c1733dd40c8
import Derived.Test.YtkjlafpafmihaaaDoorGa0ccebf5b30d
import Derived.Test.YtkjlafpafmihaaaDoorGb8636b134018
import Derived.Test.YtkjlafpafmihaaaDoorGc85c80e329fb
import Derived.Test.YtkjlafpafmihaaaDoorGcfafce0aa8d2
import Derived.Test.YtkjlafpafmihaaaDoorGf145714c852a
set_option linter.unusedVariables false
set_option linter.unusedSimpArgs false

namespace Go.Proofs.YtkjlafpafmihaaaDoor
open Go.ChangeShapes Go.WideShapes Go.RowKit
def wordB (x : Ac) : List UInt8 := (wordOf x.kd x.ek).data.toList
theorem wordB_len (x : Ac) : (wordB x).length ≤ 7 := by
  have gen : ∀ kd ek : Int, (wordOf kd ek).data.toList.length ≤ 7 := fun kd ek => by
    rcases kinds kd ek with rfl | rfl | rfl | rfl | rfl | rfl | rfl | rfl | rfl | ⟨rfl, rfl⟩ | ⟨rfl, rfl⟩ | ⟨rfl, rfl⟩ | hn
    all_goals first | (rw [wordno _ _ hn]; exact Nat.zero_le _) | exact Nat.le_of_ble_eq_true rfl
  exact gen _ _
def numB (x : Ac) (s : List UInt8) (p : Nat × Int) : List UInt8 := s ++ 32 :: Lib.itoa (x.get p.1)
def lineTo (x : Ac) (l : List (Nat × Int)) : List UInt8 := l.foldl (numB x) (wordB x)
def lineB (x : Ac) : List UInt8 := match formL x.kd x.ek with
  | none => []
  | some l => lineTo x l
theorem lineTo_take {x : Ac} {l : List (Nat × Int)} {k : Nat} {p : Nat × Int} (h : l[k]? = some p) : lineTo x (l.take (k + 1)) = lineTo x (l.take k) ++ 32 :: Lib.itoa (x.get p.1) := by
  unfold lineTo
  rw [List.take_add_one, h, List.foldl_append]
  rfl
theorem line_at {x : Ac} {l : List (Nat × Int)} (h : formL x.kd x.ek = some l) : lineB x = lineTo x l := by unfold lineB; rw [h]
/-- What an act that may be holds in its numbers. -/
theorem num_in {x : Ac} {l : List (Nat × Int)} (hf : formL x.kd x.ek = some l) (h0 : actFault x = 0) : ∀ p ∈ l, 0 ≤ x.get p.1 ∧ x.get p.1 ≤ p.2 := by
  have ha : l.all (inB x) = true := by
    by_cases h : l.all (inB x) = true
    · exact h
    · rw [af_range hf h] at h0; cases h0
  intro p hp
  have := List.all_eq_true.1 ha p hp
  simpa [inB] using this
theorem most_le {kd ek : Int} {l : List (Nat × Int)} (h : formL kd ek = some l) : ∀ p ∈ l, p.2 ≤ 1073741824 := by
  rcases kinds kd ek with rfl | rfl | rfl | rfl | rfl | rfl | rfl | rfl | rfl | ⟨rfl, rfl⟩ | ⟨rfl, rfl⟩ | ⟨rfl, rfl⟩ | hn
  all_goals first | (rw [hn] at h; cases h; done) | (simp [formL] at h; subst h; decide)
theorem zero_some {x : Ac} (h : actFault x = 0) : ∃ l, formL x.kd x.ek = some l := by
  rcases hf : formL x.kd x.ek with _ | l
  · rw [af_none hf] at h; cases h
  · exact ⟨l, rfl⟩
theorem line_len {x : Ac} (h : actFault x = 0) : (lineB x).length ≤ 117 := by
  obtain ⟨l, hf⟩ := zero_some h
  rw [line_at hf]
  have hl := form_len hf
  have gen : ∀ (l : List (Nat × Int)) (s : List UInt8), (∀ p ∈ l, 0 ≤ x.get p.1 ∧ x.get p.1 ≤ 1073741824) → (l.foldl (numB x) s).length ≤ s.length + 22 * l.length := by
    intro l
    induction l with
    | nil => intro s _; exact Nat.le_refl _
    | cons p l ih =>
      intro s hp
      have h1 := ih (numB x s p) (fun q hq => hp q (List.mem_cons_of_mem _ hq))
      have h2 := hp p (List.mem_cons_self ..)
      have h3 := Lib.itoa_length_le (x.get p.1) (by omega) (by omega)
      have h4 : (numB x s p).length = s.length + ((Lib.itoa (x.get p.1)).length + 1) := by simp [numB]
      rw [List.foldl_cons, List.length_cons]
      omega
  have := gen l (wordB x) (fun p hp => ⟨(num_in hf h p hp).1, Int.le_trans (num_in hf h p hp).2 (most_le hf p hp)⟩)
  have hw := wordB_len x
  unfold lineTo
  omega
/-- The text of the acts ahead, the place and the number of a fault. -/
def showGo : List Ac → Nat → List UInt8 → List UInt8 × Nat × Int
  | [], _, s => (s, 0, 0)
  | x :: xs, i, s => if actFault x ≠ 0 then ([], i, actFault x) else showGo xs (i + 1) (s ++ (lineB x ++ [10]))
def showM (l : List Ac) : List UInt8 × Nat × Int := if l.length > 100000 then ([], 0, 1) else showGo l 0 []
section
variable {l : List Ac} {k : Nat} {x : Ac} {s : List UInt8}
theorem drop_con3 {α : Type} {l : List α} {k : Nat} {x : α} (h : l[k]? = some x) : l.drop k = x :: l.drop (k + 1) := by
  obtain ⟨hk, rfl⟩ := List.getElem?_eq_some_iff.1 h
  exact List.drop_eq_getElem_cons hk
theorem show_bad (h : l[k]? = some x) (hf : ¬ actFault x = 0) : showGo (l.drop k) k s = ([], k, actFault x) := by rw [drop_con3 h, showGo, if_pos hf]
theorem show_next (h : l[k]? = some x) (hf : actFault x = 0) : showGo (l.drop k) k s = showGo (l.drop (k + 1)) (k + 1) (s ++ (lineB x ++ [10])) := by rw [drop_con3 h, showGo, if_neg (by simp [hf])]
theorem show_end (h : l.length ≤ k) : showGo (l.drop k) k s = (s, 0, 0) := by rw [List.drop_of_length_le h, showGo]
theorem show_big (h : (100000 : Int) < (l.length : Int)) : showM l = ([], 0, 1) := if_pos (by omega)
theorem show_go (h : ¬ (100000 : Int) < (l.length : Int)) : showM l = showGo l 0 [] := if_neg (by omega)
end
def SPost (w : World) (s : List UInt8) (e : Ending) (w' : World) : Prop := e = .returned (str s) ∧ Below w.heap.size w w'
def ShowPost (w : World) (r : List UInt8 × Nat × Int) (e : Ending) (w' : World) : Prop := e = .returned (.tuple #[str r.1, .int .i64 ((r.2.1 : Nat) : Int), .int .i64 r.2.2]) ∧ Below w.heap.size w w'
/-- The table lies in the world and stays. -/
def TabB (w : World) : Prop := Lib.TabBelow Tryd.prog w.heap.size w powN .u64 Lib.pow10Tab
theorem TabB.on {w w' : World} (h : TabB w) (hb : Below w.heap.size w w') : TabB w' := fun w2 h2 => h w2 (hb.trans (h2.mono hb.size))
theorem itoa_post (n : Int) (h0 : -9223372036854775808 ≤ n) (h1 : n ≤ 9223372036854775807) (w : World) (ht : TabB w) : Calls Tryd.prog 22 #[.int .i64 n] w (SPost w (Lib.itoa n)) :=
  (itoa_calls n h0 h1 w ht.here).mono fun e w' h => by
    obtain ⟨rfl, k, os, rfl⟩ := h
    exact ⟨rfl, below_regrown w _ os⟩
end Go.Proofs.YtkjlafpafmihaaaDoor

namespace Go.Proofs.YtkjlafpafmihaaaDoor
open Go.ChangeShapes Go.WideShapes Go.RowKit

set_option maxRecDepth 100000 in
set_option maxHeartbeats 8000000 in
theorem line_calls (x : Ac) (l : List (Nat × Int)) (hf : formL x.kd x.ek = some l) (h0 : actFault x = 0) (w : World) (ht : TabB w) :
    Calls Tryd.prog 13 #[.agg #[.int .i64 x.kd, .int .i64 x.nd, .int .i64 x.qu, .int .i64 x.at_, .int .i64 x.kp, .int .i64 x.ek, .int .i64 x.ep, .int .i64 x.ei, .int .i64 x.eb, .int .i64 x.eh, .int .i64 x.en]] w (SPost w (lineB x ++ [10])) := by
 have S := St.start w
 refine fnw 30 Tryd.func13 ?_
 refine cw [0] ?_
 refine x_sr (nb (row := #[.int .i64 x.kd, .int .i64 x.nd, .int .i64 x.qu, .int .i64 x.at_, .int .i64 x.kp, .int .i64 x.ek, .int .i64 x.ep, .int .i64 x.ei, .int .i64 x.eb, .int .i64 x.eh, .int .i64 x.en]) S ?_); intro b1 w2 S3; clear S
 refine va ?_
 refine qk [1, 2] ?_
 refine wQ_then (wC_seq ?_)
 have HF := fun w h => form_calls b1 x w h
 rw [hf] at HF
 have hl5 := form_len hf
 refine wC_region (wL_call (wn rfl) rfl rfl (e_call (vs := [.pointer (some ⟨b1, 0, none⟩)]) rfl en20 ⟨rfl, trivial⟩) (HF _ (St.bld 0 S3 rfl rfl rfl)) ?_)
 rintro _ w5 ⟨A4, rfl, T7⟩
 refine ⟨_, rfl, ?_⟩
 have S6 := S3.ext T7 rfl; clear T7 S3
 change St _ _ _ [.rdo 2 A4 l.length ((l).flatMap (slotCells b1)), _] at S6
 refine vm ?_
 refine vv yx ?_
 refine vv yx ?_
 refine vv yx ?_
 iterate 3 refine va ?_
 refine qk [2, 3, 4] ?_
 refine x_tssr (vm ?_)
 refine vv (v := .int .i64 ((l.length : Nat) : Int)) (y_builtin (vs := [.slice A4 l.length l.length]) rfl ⟨rfl, trivial⟩ fun _ => r_len rfl Tryd.underlying53) ?_
 refine vm ?_
 refine qk [2, 3, 13, 14, 15] ?_
 refine wQ_then (wC_block (wC_loop (X := Nat) (fun xv => [(2, .string ⟨#[]⟩), (13, .slice A4 l.length l.length), (14, .int .i64 ((l.length : Nat) : Int)), (3, str (lineTo x (l.take xv))), (15, .int .i64 ((xv : Nat) : Int))]) (fun xv wr => (xv ≤ l.length) ∧ ((lineTo x (l.take xv)).length ≤ 7 + 22 * xv) ∧ St w.heap.size w wr [.rdo 2 A4 l.length ((l).flatMap (slotCells b1)), .blk b1 #[.int .i64 x.kd, .int .i64 x.nd, .int .i64 x.qu, .int .i64 x.at_, .int .i64 x.kp, .int .i64 x.ek, .int .i64 x.ep, .int .i64 x.ei, .int .i64 x.eb, .int .i64 x.eh, .int .i64 x.en] 41]) (fun xv => l.length - xv) (0) ?_ ?_ ?_))
 ·exact ⟨Nat.zero_le _, wordB_len x, S6⟩
 ·exact ⟨rfl, rfl, rfl, rfl, rfl, trivial⟩
 ·rintro k w8 ⟨hi10, hi11, S9⟩
  try dsimp only at hi10 hi11 S9; clear S6
  refine wC_sub (l' := [(2, .string ⟨#[]⟩), (13, .slice A4 l.length l.length), (14, .int .i64 ((l.length : Nat) : Int)), (3, str (lineTo x (l.take k))), (15, .int .i64 ((k : Nat) : Int))]) ⟨rfl, rfl, rfl, rfl, rfl, trivial⟩ (wC_seq (wC_region ?_))
  by_cases h12 : ((k : Nat) : Int) < ((l.length : Nat) : Int)
  ·refine vv (ylssT h12) ?_
   refine wL_nil (wQ_then (wC_seq (wC_cond_t rfl (wC_skip (wQ_then (wC_seq (wC_block (wC_seq (wC_region ?_)))))))))
   obtain ⟨b13, o14, rfl⟩ := Rd.addr (St.rdo 0 S9 rfl) (by omega)
   obtain ⟨x15, hx16⟩ := elm k (St.rdo 0 S9 rfl) (by omega)
   refine vv (v := .pointer (some ⟨b13, o14 + k * 2, none⟩)) (y_indexAddr rfl rfl rfl (r_indexAddr k Tryd.underlying53 inf59 (by omega) (by omega))) ?_
   refine vv (y_load rfl rfl (r_load_agg (cs := (slotCells b1) x15) Tryd.underlying59 rfl inf59 rfl (Rd.rg2 (St.rdo 0 S9 rfl) (fun _ _ h => fm_get (enc := (slotCells b1)) (sz := 2) (fun _ => rfl) hx16 h)))) ?_
   refine na (row := #[.pointer none, .int .i64 0]) S9 Tryd.zeroValue59 ?_; intro b17 w18 S19; clear S9
   refine sa 0 S19 inf59 ?_; intro w20 S21; clear S19
   refine qk [2, 13, 14, 3, 15, 7] ?_
   refine wQ_then ?_
   have hp := form_lt hf x15 (List.mem_of_getElem? hx16)
   have hq := num_in hf h0 x15 (List.mem_of_getElem? hx16)
   have hq2 := most_le hf x15 (List.mem_of_getElem? hx16)
   have hit := Lib.itoa_length_le (x.get x15.1) (by omega) (by omega)
   refine wC_region (vm ?_)
   refine vv (yfa 0 fa59_0) ?_
   refine vv (ylc 0 S21 Tryd.underlying57) ?_
   refine vv (y_nil rfl rfl trivial) ?_
   refine vv (v := .int .i64 (x.get x15.1)) (y_load rfl rfl (r_load Tryd.underlying3 rfl (St.cl 2 S21 rfl (Ac.cellA x hp.2.1)))) ?_
   refine cab en22 S21 (itoa_post (x.get x15.1) (by omega) (by omega) _ (ht.on S21.low)) ?_; intro w22 S23; clear S21
   refine vv (v := str (32 :: Lib.itoa (x.get x15.1))) (y_binop rfl rfl rfl (r_sadd (a := [32]) (b := Lib.itoa (x.get x15.1)) (c := 32 :: Lib.itoa (x.get x15.1)) rfl (by rw [List.length_cons]; omega))) ?_
   refine vv (v := str (lineTo x (l.take (k + 1)))) (y_binop rfl rfl rfl (r_sadd (a := lineTo x (l.take k)) (b := 32 :: Lib.itoa (x.get x15.1)) (c := lineTo x (l.take (k + 1))) (lineTo_take hx16).symm (by rw [lineTo_take hx16, List.length_append, List.length_cons]; omega))) ?_
   refine va ?_
   refine qk [2, 13, 14, 3, 15] ?_
   refine wQ_blk_n (wQ_then (wC_region (vv (v := .int .i64 ((k + 1 : Nat) : Int)) (y_binop rfl rfl rfl (r_add (by omega) (by omega))) ?_)))
   refine vm ?_
   refine qk [2, 13, 14, 3, 15] ?_
   have S25 : St _ _ _ [_, _] := S23.dels [0]; clear S23
   refine wQ_round (k + 1) ?_ ⟨rfl, rfl, rfl, rfl, rfl, trivial⟩ (by first | omega | (dsimp only; omega))
   exact ⟨(by omega), (by rw [lineTo_take hx16, List.length_append, List.length_cons]; omega), S25⟩
  ·refine vv (ylssF h12) ?_
   refine wL_nil (wQ_then (wC_seq (wC_cond_f rfl (wC_exit (wQ_then_exit (wQ_then_exit (wQ_blk_same (wQ_then (wC_seq ?_)))))))))
   obtain rfl : k = l.length := by omega
   have hlt : lineTo x (l.take l.length) = lineB x := by rw [List.take_length, line_at hf]
   have hll := line_len h0
   rw [hlt]
   refine wC_region (vm ?_)
   refine vv (v := str (lineB x ++ [10])) (y_binop rfl rfl rfl (r_sadd (a := lineB x) (b := [10]) (c := lineB x ++ [10]) rfl (by rw [List.length_append]; simp only [List.length_cons, List.length_nil]; omega))) ?_
   refine va ?_
   refine qk [2] ?_
   refine x_te (wQ_post (rs := [.tmp 2]) (vs := [str (lineB x ++ [10])]) rfl ⟨rfl, trivial⟩ ?_)
   exact ⟨rfl, S9.low⟩
end Go.Proofs.YtkjlafpafmihaaaDoor

namespace Go.Proofs.YtkjlafpafmihaaaDoor
open Go.ChangeShapes Go.WideShapes Go.RowKit

theorem acs_one (l : List Ac) : ∀ u ∈ l.flatMap Ac.cells, u.oneCell' = true := by
  intro u hu
  rw [List.mem_flatMap] at hu
  obtain ⟨z, _, hz⟩ := hu
  simp [Ac.cells] at hz
  rcases hz with rfl | rfl | rfl | rfl | rfl | rfl | rfl | rfl | rfl | rfl | rfl <;> rfl
theorem byteCells_str (s t : List UInt8) : byteCells s ++ Lib.strCells ⟨t.toArray⟩ = byteCells (s ++ t) := by simp [byteCells, Lib.strCells]
theorem byteCells_len (s : List UInt8) : (byteCells s).length = s.length := by simp [byteCells]

set_option maxRecDepth 100000 in
set_option maxHeartbeats 8000000 in
theorem Show_calls (A : Option Addr) (c : Nat) (l : List Ac) (w : World) (ht : TabB w) (h : Rd w w.heap.size 11 A l.length (l.flatMap Ac.cells)) :
    Calls Tryd.prog 6 #[.slice A l.length c] w (ShowPost w (showM l)) := by
 have S := (St.start w).addRd h; clear h
 refine fnw 30 Tryd.func6 ?_
 refine cw [0] ?_
 refine x_sr (va ?_)
 iterate 2 refine va ?_
 refine wL_nil (wQ_then (wC_seq (wC_seq (wC_region (vm ?_)))))
 refine vv (v := .int .i64 ((l.length : Nat) : Int)) (y_builtin (vs := [.slice A l.length c]) rfl ⟨rfl, trivial⟩ fun _ => r_len rfl Tryd.underlying22) ?_
 by_cases hbig : (100000 : Int) < (l.length : Int)
 ·refine vv (ygtrT hbig) ?_
  refine qk [0, 2, 3, 4, 11] ?_
  refine x_tysr (va ?_)
  iterate 2 refine va ?_
  refine qk [2, 3, 4] ?_
  refine x_teh (wQ_post (rs := [.tmp 2, .tmp 3, .tmp 4]) (vs := [.string ⟨#[]⟩, .int .i64 0, .int .i64 1]) rfl ⟨rfl, rfl, rfl, trivial⟩ ?_)
  rw [show_big hbig]
  exact ⟨rfl, S.low⟩
 ·refine vv (ygtrF hbig) ?_
  refine qk [0, 2, 3, 4, 11] ?_
  refine x_tnktsr (na (row := #[.pointer none, .slice none 0 0]) S Tryd.zeroValue35 ?_); intro b1 w2 S3; clear S
  refine qk [0, 2, 3, 4, 5] ?_
  refine x_tssr (vm ?_)
  refine vv (v := .int .i64 ((l.length : Nat) : Int)) (y_builtin (vs := [.slice A l.length c]) rfl ⟨rfl, trivial⟩ fun _ => r_len rfl Tryd.underlying22) ?_
  refine vm ?_
  refine qk [2, 3, 4, 5, 12, 13, 14] ?_
  refine wQ_then (wC_block ?_)
  have S4 := S3.nil 5 1; clear S3
  change St _ _ _ [.own 5 1 (.slice none 0 0) 0 (byteCells []), _, _] at S4
  have S5 : St w.heap.size w w2 [_, _, _] := S4.re [1, 0, 2] (by decide); clear S4
  refine wC_loop (X := Nat × (List UInt8) × Value × Value) (fun xv => [(2, .string ⟨#[]⟩), (3, .int .i64 0), (4, .int .i64 0), (5, .pointer (some ⟨b1, 0, none⟩)), (12, .slice A l.length c), (13, .int .i64 ((l.length : Nat) : Int)), (14, .int .i64 ((xv.1 : Nat) : Int))]) (fun xv wr => (xv.1 ≤ l.length) ∧ (showGo l 0 [] = showGo (l.drop xv.1) xv.1 xv.2.1) ∧ (xv.2.1.length ≤ 118 * xv.1) ∧ (xv.2.2.1 = .pointer none ∨ xv.2.2.1 = .pointer (some ⟨b1, 0, none⟩)) ∧ St w.heap.size w wr [.blk b1 #[xv.2.2.1, xv.2.2.2] 35, .own 5 1 (xv.2.2.2) ((byteCells xv.2.1).length) (byteCells xv.2.1), .rd 11 A l.length ((l).flatMap Ac.cells)]) (fun xv => l.length - xv.1) (0, [], .pointer none, .slice none 0 0) ?_ ?_ ?_
  ·exact ⟨Nat.zero_le _, rfl, Nat.le_refl _, .inl rfl, S5⟩
  ·exact ⟨rfl, rfl, rfl, rfl, rfl, rfl, rfl, trivial⟩
  ·rintro ⟨k, s, pbuf, vbuf⟩ w6 ⟨hi8, hi9, hi10, hi11, S7⟩
   try dsimp only at hi8 hi9 hi10 hi11 S7; clear S5
   refine wC_sub (l' := [(2, .string ⟨#[]⟩), (3, .int .i64 0), (4, .int .i64 0), (5, .pointer (some ⟨b1, 0, none⟩)), (12, .slice A l.length c), (13, .int .i64 ((l.length : Nat) : Int)), (14, .int .i64 ((k : Nat) : Int))]) ⟨rfl, rfl, rfl, rfl, rfl, rfl, rfl, trivial⟩ (wC_seq (wC_region ?_))
   by_cases h12 : ((k : Nat) : Int) < ((l.length : Nat) : Int)
   ·refine vv (ylssT h12) ?_
    refine wL_nil (wQ_then (wC_seq (wC_cond_t rfl (wC_skip (wQ_then (wC_seq (wC_block (wC_seq (wC_region (vm ?_))))))))))
    obtain ⟨b13, o14, rfl⟩ := Rd.addr (St.rd 2 S7 rfl) (by omega)
    obtain ⟨x15, hx16⟩ := elm k (St.rd 2 S7 rfl) (by omega)
    refine vv (v := .pointer (some ⟨b13, o14 + k * 11, none⟩)) (y_indexAddr rfl rfl rfl (r_indexAddr k Tryd.underlying22 inf41 (by omega) (by omega))) ?_
    refine vv (y_load rfl rfl (r_load_agg (cs := Ac.cells x15) Tryd.underlying41 rfl inf41 rfl (Rd.rg2 (St.rd 2 S7 rfl) (fun _ _ h => fm_get (enc := Ac.cells) (sz := 11) (fun _ => rfl) hx16 h)))) ?_
    refine na (row := #[.int .i64 0, .int .i64 0, .int .i64 0, .int .i64 0, .int .i64 0, .int .i64 0, .int .i64 0, .int .i64 0, .int .i64 0, .int .i64 0, .int .i64 0]) S7 Tryd.zeroValue41 ?_; intro b17 w18 S19; clear S7
    refine va ?_
    refine sa 0 S19 inf41 ?_; intro w20 S21; clear S19
    refine qk [2, 3, 4, 5, 12, 13, 14, 7, 6] ?_
    refine x_tssr (vv (ylr 0 S21 Tryd.underlying41 inf41) ?_)
    refine cab en11 S21 (LCheck_calls x15 _) ?_; intro w22 S23; clear S21
    refine va ?_
    refine qk [2, 3, 4, 5, 12, 13, 14, 7, 6, 8] ?_
    refine x_tsr (vm ?_)
    by_cases h25 : actFault x15 = 0
    ·refine vv (yneqF h25) ?_
     refine qk [2, 3, 4, 5, 12, 13, 14, 7, 6, 8, 22] ?_
     refine wQ_then (wC_cond_f rfl (wC_skip (wQ_then ?_)))
     obtain ⟨fl, hfl⟩ := zero_some h25
     have hll := line_len h25
     refine wC_region (vv (ylr 0 S23 Tryd.underlying41 inf41) ?_)
     refine cab en13 S23 (line_calls x15 fl hfl h25 _ (ht.on S23.low)) ?_; intro w26 S27; clear S23
     have S29 : St _ _ _ [_, _, _] := S27.dels [0]; clear S27
     have hB30 : Lib.IsBuilder 35 5 w.heap.size b1 (byteCells s) w26 := St.isBldOr S29 hi11
     have hlw : (byteCells s).length + (⟨(lineB x15 ++ [10]).toArray⟩ : ByteArray).size ≤ 140737488355328 := by rw [byteCells_len, str_size, List.length_append, List.length_singleton]; omega
     have HC := bldWrite w.heap.size b1 (byteCells s) ⟨(lineB x15 ++ [10]).toArray⟩ _ hB30 hlw S29.base
     refine wL_call (wn rfl) rfl rfl (e_call (vs := [.pointer (some ⟨b1, 0, none⟩), str (lineB x15 ++ [10])]) rfl en12 ⟨rfl, rfl, trivial⟩) (HC) ?_
     rintro _ w31 ⟨rfl, hB32, hb33⟩
     refine ⟨_, rfl, ?_⟩
     rw [byteCells_str] at hB32
     obtain ⟨v35, S34⟩ := St.bldRd (S29.low.trans hb33) (Nat.le_trans S29.base hb33.size) hB32 (Rd.below (show Rd _ _ _ _ _ _ from S29.all 2 _ rfl) hb33 (Nat.le_refl _)); clear S29
     refine qk [2, 3, 4, 5, 12, 13, 14] ?_
     refine wQ_blk_n (wQ_then (wC_region (vv (v := .int .i64 ((k + 1 : Nat) : Int)) (y_binop rfl rfl rfl (r_add (by omega) (by omega))) ?_)))
     refine vm ?_
     refine qk [2, 3, 4, 5, 12, 13, 14] ?_
     refine wQ_round (k + 1, s ++ (lineB x15 ++ [10]), .pointer (some ⟨b1, 0, none⟩), v35) ?_ ⟨rfl, rfl, rfl, rfl, rfl, rfl, rfl, trivial⟩ (by first | omega | (dsimp only; omega))
     exact ⟨(by dsimp only; omega), (by dsimp only; rw [hi9]; exact show_next hx16 h25), (by dsimp only; rw [List.length_append, List.length_append]; simp only [List.length_cons, List.length_nil]; omega), (.inr rfl), S34⟩
    ·refine vv (yneqT h25) ?_
     refine qk [2, 3, 4, 5, 12, 13, 14, 7, 6, 8, 22] ?_
     refine x_tysr (vm ?_)
     refine vm ?_
     iterate 3 refine va ?_
     refine qk [2, 3, 4] ?_
     refine wQ_then (wC_ret (wQ_then_ret (wQ_blk_ret (wQ_then_ret (wQ_then_ret (wQ_blk_ret (wQ_then_ret (wQ_post (rs := [.tmp 2, .tmp 3, .tmp 4]) (vs := [.string ⟨#[]⟩, .int .i64 ((k : Nat) : Int), .int .i64 (actFault x15)]) rfl ⟨rfl, rfl, rfl, trivial⟩ ?_))))))))
     rw [show_go hbig]
     rw [hi9, show_bad hx16 h25]
     exact ⟨rfl, S23.low⟩
   ·refine vv (ylssF h12) ?_
    refine wL_nil (wQ_then (wC_seq (wC_cond_f rfl (wC_exit (wQ_then_exit (wQ_then_exit (wQ_blk_same (wQ_then (wC_seq (wC_region ?_))))))))))
    have hB36 : Lib.IsBuilder 35 5 w.heap.size b1 (byteCells s) w6 := St.isBldOr S7 hi11
    have HC := bldString w.heap.size b1 s _ hB36 S7.base
    refine wL_call (wn rfl) rfl rfl (e_call (vs := [.pointer (some ⟨b1, 0, none⟩)]) rfl en14 ⟨rfl, trivial⟩) (HC) ?_
    rintro _ w37 ⟨rfl, hb38⟩
    refine ⟨_, rfl, ?_⟩
    have hlow := S7.low.trans hb38
    iterate 3 refine va ?_
    refine qk [2, 3, 4] ?_
    refine x_te (wQ_post (rs := [.tmp 2, .tmp 3, .tmp 4]) (vs := [str s, .int .i64 0, .int .i64 0]) rfl ⟨rfl, rfl, rfl, trivial⟩ ?_)
    rw [show_go hbig]
    rw [hi9, show_end (by omega)]
    exact ⟨rfl, hlow⟩
end Go.Proofs.YtkjlafpafmihaaaDoor

namespace Go.Proofs.YtkjlafpafmihaaaDoor
open Go.ChangeShapes Go.WideShapes Go.RowKit

theorem dec_more {n : Nat} (h : ¬ ((n : Nat) : Int) < 10) : Lib.decDigits (n / 10) ++ [UInt8.ofNat (48 + n % 10)] = Lib.decDigits n := by
  conv => rhs; rw [Lib.decDigits, dif_neg (by omega)]
theorem dec_len (n : Nat) (hn : n ≤ 1152921504606846976) : (Lib.decDigits n).length ≤ 4611686018427387904 := by
  rw [Lib.decDigits_length]
  have := Lib.nDigits_le20 n (by omega)
  omega
theorem own_none {w : World} {B : Nat} {e : TypeId} {s n c : Nat} {A : Option Addr} {xs : List Value} (h : w.ownsRow B e s (.slice A n c) n xs) (hA : A = none) : n = 0 := by
  subst hA
  rcases h.2 with ⟨_, h0⟩ | ⟨g, cap, cur, hv, _⟩
  · exact h0
  · cases hv

set_option maxRecDepth 100000 in
set_option maxHeartbeats 4000000 in
theorem Dec_step (n : Nat) (hn : n ≤ 1152921504606846976) (ih : ∀ m, m < n → m ≤ 1152921504606846976 → ∀ w, Calls Tryd.prog 27 #[.int .i64 ((m : Nat) : Int)] w (SPost w (Lib.decDigits m))) (w : World) :
    Calls Tryd.prog 27 #[.int .i64 ((n : Nat) : Int)] w (SPost w (Lib.decDigits n)) := by
 have S := St.start w
 refine fnw 20 Tryd.func27 ?_
 refine cw [0] ?_
 refine x_sr (va ?_)
 refine wL_nil (wQ_then (wC_seq (wC_seq (wC_region (vm ?_)))))
 by_cases h1 : ((n : Nat) : Int) < 10
 ·refine vv (ylssT h1) ?_
  refine qk [0, 2, 4] ?_
  refine x_tysr (vm ?_)
  refine vv (v := .int .i64 ((48 + n : Nat) : Int)) (y_binop rfl rfl rfl (r_add (by omega) (by omega))) ?_
  refine vv (v := .int .u8 ((UInt8.ofNat (48 + n)).toNat : Int)) (y_convert rfl rfl (r_i2u8 (by rw [Tryd.underlying3]; rfl) Tryd.underlying5 (by omega))) ?_
  refine wL_new (V := fun b => .slice (some ⟨b, 0, none⟩) 1 1) (row := #[.int .u8 ((UInt8.ofNat (48 + n)).toNat : Int)]) (t := 5) S (wn rfl) rfl rfl (d_buildSlice (vs := [(0, .int .u8 ((UInt8.ofNat (48 + n)).toNat : Int))]) rfl ⟨rfl, rfl, trivial⟩ (by kernel_rfl)) ?_; intro b2 w3 S4; clear S
  refine vv (v := str [UInt8.ofNat (48 + n)]) (y_convert rfl rfl (r_b2s (b := [UInt8.ofNat (48 + n)]) Tryd.underlying33 Tryd.underlying5 Tryd.underlying9 (St.bld (s := 1) (n := 1) (xs := byteCells [UInt8.ofNat (48 + n)]) 0 S4 rfl rfl rfl) (fun e => by cases e))) ?_
  refine va ?_
  refine qk [2] ?_
  refine x_teh (wQ_post (rs := [.tmp 2]) (vs := [str [UInt8.ofNat (48 + n)]]) rfl ⟨rfl, trivial⟩ ?_)
  rw [Lib.decDigits_one (by omega)]
  exact ⟨rfl, S4.low⟩
 ·refine vv (ylssF h1) ?_
  refine qk [0, 2, 4] ?_
  refine wQ_then (wC_cond_f rfl (wC_skip (wQ_then (wC_seq ?_))))
  have S5 := S.drew; clear S
  refine wC_any_ (C := fun w' => St w.heap.size w w' []) (n := 11) (listed := #[false, false, false, false, false, false, false, false, false, false, false]) mixed rfl rfl ?_
  refine ak (v := .int .i64 ((n : Nat) : Int)) 0 rfl S5 (fun _ _ => ym) ?_
  refine ak (v := .int .i64 ((n / 10 : Nat) : Int)) 1 rfl S5 (fun _ _ => (y_binop rfl rfl rfl (r_quo10 (by omega)))) ?_
  refine ak (v := .int .i64 ((n : Nat) : Int)) 3 rfl S5 (fun _ _ => ym) ?_
  refine ak (v := .int .i64 ((n % 10 : Nat) : Int)) 4 rfl S5 (fun _ _ => y_binop rfl rfl rfl r_rem10) ?_
  refine ak (v := .int .i64 ((48 + (n % 10) : Nat) : Int)) 5 rfl S5 (fun _ _ => (y_binop rfl rfl rfl (r_add (by omega) (by omega)))) ?_
  refine ak (v := .int .u8 ((UInt8.ofNat (48 + (n % 10))).toNat : Int)) 6 rfl S5 (fun _ _ => (y_convert rfl rfl (r_i2u8 (by rw [Tryd.underlying3]; rfl) Tryd.underlying5 (by omega)))) ?_
  refine wA_two (n := 4) (r := 2) (s := 7) (by kernel_rfl) ?_ ?_
  ·refine caln 2 rfl en27 (ih (n / 10) (by omega) (by omega) _) ?_
   rintro _ w12 ⟨rfl, hb14⟩
   refine ⟨_, rfl, ?_⟩
   have S13 := S5.on hb14; clear hb14 S5
   refine ⟨S13, ?_⟩
   refine aq1 7 ?_
   refine wN_new (i := 7) rfl rfl (V := fun b => .slice (some ⟨b, 0, none⟩) 1 1) (row := #[.int .u8 ((UInt8.ofNat (48 + (n % 10))).toNat : Int)]) (t := 5) S13 (wn rfl) rfl rfl (d_buildSlice (vs := [(0, .int .u8 ((UInt8.ofNat (48 + (n % 10))).toNat : Int))]) rfl ⟨rfl, rfl, trivial⟩ (by kernel_rfl)) ?_; intro b15 w16 S17; clear S13
   refine ⟨(St.del 0 S17), ?_⟩
   refine aq1 8 ?_
   refine wN_val (i := 8) rfl rfl (v := str [UInt8.ofNat (48 + n % 10)]) (wn rfl) rfl rfl (y_convert rfl rfl (r_b2s (b := [UInt8.ofNat (48 + n % 10)]) Tryd.underlying33 Tryd.underlying5 Tryd.underlying9 (St.bld (s := 1) (n := 1) (xs := byteCells [UInt8.ofNat (48 + n % 10)]) 0 S17 rfl rfl rfl) (fun e => by cases e))) ?_
   refine ⟨(St.del 0 S17), ?_⟩
   refine aq1 9 ?_
   refine wN_val (i := 9) rfl rfl (v := str (Lib.decDigits n)) (wn rfl) rfl rfl (y_binop rfl rfl rfl (r_sadd (a := Lib.decDigits (n / 10)) (b := [UInt8.ofNat (48 + n % 10)]) (c := Lib.decDigits n) (dec_more h1) (dec_len n hn))) ?_
   refine ⟨(St.del 0 S17), ?_⟩
   refine aq1 10 ?_
   refine wN_val (i := 10) rfl rfl (v := str (Lib.decDigits n)) (wn rfl) rfl rfl ya ?_
   refine ⟨(St.del 0 S17), ?_⟩
   refine wA_done (by kernel_rfl) ?_
   refine pk [2] ?_
   refine x_te (pt ?_)
   exact ⟨rfl, S17.low⟩
  ·refine wN_new (i := 7) rfl rfl (V := fun b => .slice (some ⟨b, 0, none⟩) 1 1) (row := #[.int .u8 ((UInt8.ofNat (48 + (n % 10))).toNat : Int)]) (t := 5) S5 (wn rfl) rfl rfl (d_buildSlice (vs := [(0, .int .u8 ((UInt8.ofNat (48 + (n % 10))).toNat : Int))]) rfl ⟨rfl, rfl, trivial⟩ (by kernel_rfl)) ?_; intro b18 w19 S20; clear S5
   refine ⟨(St.del 0 S20), ?_⟩
   refine wA_two (n := 3) (r := 2) (s := 8) (by kernel_rfl) ?_ ?_
   ·refine caln 2 rfl en27 (ih (n / 10) (by omega) (by omega) _) ?_
    rintro _ w21 ⟨rfl, hb23⟩
    refine ⟨_, rfl, ?_⟩
    have S22 := S20.on hb23; clear hb23 S20
    refine ⟨(St.del 0 S22), ?_⟩
    refine aq1 8 ?_
    refine wN_val (i := 8) rfl rfl (v := str [UInt8.ofNat (48 + n % 10)]) (wn rfl) rfl rfl (y_convert rfl rfl (r_b2s (b := [UInt8.ofNat (48 + n % 10)]) Tryd.underlying33 Tryd.underlying5 Tryd.underlying9 (St.bld (s := 1) (n := 1) (xs := byteCells [UInt8.ofNat (48 + n % 10)]) 0 S22 rfl rfl rfl) (fun e => by cases e))) ?_
    refine ⟨(St.del 0 S22), ?_⟩
    refine aq1 9 ?_
    refine wN_val (i := 9) rfl rfl (v := str (Lib.decDigits n)) (wn rfl) rfl rfl (y_binop rfl rfl rfl (r_sadd (a := Lib.decDigits (n / 10)) (b := [UInt8.ofNat (48 + n % 10)]) (c := Lib.decDigits n) (dec_more h1) (dec_len n hn))) ?_
    refine ⟨(St.del 0 S22), ?_⟩
    refine aq1 10 ?_
    refine wN_val (i := 10) rfl rfl (v := str (Lib.decDigits n)) (wn rfl) rfl rfl ya ?_
    refine ⟨(St.del 0 S22), ?_⟩
    refine wA_done (by kernel_rfl) ?_
    refine pk [2] ?_
    refine x_te (pt ?_)
    exact ⟨rfl, S22.low⟩
   ·refine wN_val (i := 8) rfl rfl (v := str [UInt8.ofNat (48 + n % 10)]) (wn rfl) rfl rfl (y_convert rfl rfl (r_b2s (b := [UInt8.ofNat (48 + n % 10)]) Tryd.underlying33 Tryd.underlying5 Tryd.underlying9 (St.bld (s := 1) (n := 1) (xs := byteCells [UInt8.ofNat (48 + n % 10)]) 0 S20 rfl rfl rfl) (fun e => by cases e))) ?_
    refine ⟨(St.del 0 S20), ?_⟩
    refine aq1 2 ?_
    refine caln 2 rfl en27 (ih (n / 10) (by omega) (by omega) _) ?_
    rintro _ w24 ⟨rfl, hb26⟩
    refine ⟨_, rfl, ?_⟩
    have S25 := S20.on hb26; clear hb26 S20
    refine ⟨(St.del 0 S25), ?_⟩
    refine aq1 9 ?_
    refine wN_val (i := 9) rfl rfl (v := str (Lib.decDigits n)) (wn rfl) rfl rfl (y_binop rfl rfl rfl (r_sadd (a := Lib.decDigits (n / 10)) (b := [UInt8.ofNat (48 + n % 10)]) (c := Lib.decDigits n) (dec_more h1) (dec_len n hn))) ?_
    refine ⟨(St.del 0 S25), ?_⟩
    refine aq1 10 ?_
    refine wN_val (i := 10) rfl rfl (v := str (Lib.decDigits n)) (wn rfl) rfl rfl ya ?_
    refine ⟨(St.del 0 S25), ?_⟩
    refine wA_done (by kernel_rfl) ?_
    refine pk [2] ?_
    refine x_te (pt ?_)
    exact ⟨rfl, S25.low⟩

theorem Dec_calls (n : Nat) : n ≤ 1152921504606846976 → ∀ w, Calls Tryd.prog 27 #[.int .i64 ((n : Nat) : Int)] w (SPost w (Lib.decDigits n)) :=
  Nat.strongRecOn n fun n ih hn w => Dec_step n hn ih w

set_option maxRecDepth 100000 in
set_option maxHeartbeats 8000000 in
theorem ActLine_calls (x : Ac) (l : List (Nat × Int)) (hf : formL x.kd x.ek = some l) (h0 : actFault x = 0) (w : World) :
    Calls Tryd.prog 16 #[.agg #[.int .i64 x.kd, .int .i64 x.nd, .int .i64 x.qu, .int .i64 x.at_, .int .i64 x.kp, .int .i64 x.ek, .int .i64 x.ep, .int .i64 x.ei, .int .i64 x.eb, .int .i64 x.eh, .int .i64 x.en]] w (SPost w (lineB x)) := by
 have S := St.start w
 refine fnw 29 Tryd.func16 ?_
 refine cw [0] ?_
 refine x_sr (nb (row := #[.int .i64 x.kd, .int .i64 x.nd, .int .i64 x.qu, .int .i64 x.at_, .int .i64 x.kp, .int .i64 x.ek, .int .i64 x.ep, .int .i64 x.ei, .int .i64 x.eb, .int .i64 x.eh, .int .i64 x.en]) S ?_); intro b1 w2 S3; clear S
 refine va ?_
 refine qk [1, 2] ?_
 refine x_tsr (vv (ylr 0 S3 Tryd.underlying41 inf41) ?_)
 refine cal en24 (actNumbers_calls x l hf _) ?_
 rintro _ w6 ⟨A4, A5, rfl, T8⟩
 refine ⟨_, rfl, ?_⟩
 have S7 := S3.ext T8 rfl; clear T8 S3
 change St _ _ _ [.rdo 1 A4 l.length ((l).flatMap (valC x)), .rdo 1 A5 l.length ((l).flatMap mostC), _] at S7
 refine vm ?_
 refine vv yx ?_
 refine vv yx ?_
 iterate 2 refine va ?_
 refine qk [1, 2, 3] ?_
 refine x_tsr (vv (ylr 2 S7 Tryd.underlying41 inf41) ?_)
 have HW := fun w => ActWord_calls x w
 refine cab en23 S7 (HW _) ?_; intro w9 S10; clear S7
 refine va ?_
 refine qk [2, 3, 5] ?_
 refine x_tssr (va ?_)
 refine wL_nil (wQ_then (wC_block (wC_loop (X := Nat) (fun xv => [(2, .string ⟨#[]⟩), (3, .slice A4 l.length l.length), (5, str (lineTo x (l.take xv))), (6, .int .i64 ((xv : Nat) : Int))]) (fun xv wr => (xv ≤ l.length) ∧ ((lineTo x (l.take xv)).length ≤ 7 + 22 * xv) ∧ St w.heap.size w wr [.rdo 1 A4 l.length ((l).flatMap (valC x)), .rdo 1 A5 l.length ((l).flatMap mostC), .blk b1 #[.int .i64 x.kd, .int .i64 x.nd, .int .i64 x.qu, .int .i64 x.at_, .int .i64 x.kp, .int .i64 x.ek, .int .i64 x.ep, .int .i64 x.ei, .int .i64 x.eb, .int .i64 x.eh, .int .i64 x.en] 41]) (fun xv => l.length - xv) (0) ?_ ?_ ?_)))
 ·exact ⟨Nat.zero_le _, wordB_len x, S10⟩
 ·exact ⟨rfl, rfl, rfl, rfl, trivial⟩
 ·rintro k w12 ⟨hi14, hi15, S13⟩
  try dsimp only at hi14 hi15 S13; clear S10
  refine wC_sub (l' := [(2, .string ⟨#[]⟩), (3, .slice A4 l.length l.length), (5, str (lineTo x (l.take k))), (6, .int .i64 ((k : Nat) : Int))]) ⟨rfl, rfl, rfl, rfl, trivial⟩ (wC_seq (wC_seq (wC_region (vm ?_))))
  refine vm ?_
  refine vv (v := .int .i64 ((l.length : Nat) : Int)) (y_builtin (vs := [.slice A4 l.length l.length]) rfl ⟨rfl, trivial⟩ fun _ => r_len rfl Tryd.underlying62) ?_
  by_cases h16 : ((k : Nat) : Int) < ((l.length : Nat) : Int)
  ·refine vv (ylssT h16) ?_
   refine qk [2, 3, 5, 6, 17] ?_
   refine wQ_then (wC_cond_t rfl (wC_skip (wQ_then (wC_seq (wC_block ?_)))))
   have hl5 := form_len hf
   obtain ⟨x17, hx18⟩ := elm k (St.rdo 0 S13 rfl) (by omega)
   have hq := num_in hf h0 x17 (List.mem_of_getElem? hx18)
   have hq2 := most_le hf x17 (List.mem_of_getElem? hx18)
   have hit := Lib.itoa_length_le (x.get x17.1) (by omega) (by omega)
   obtain ⟨m, hm⟩ : ∃ m : Nat, x.get x17.1 = (m : Int) := ⟨(x.get x17.1).toNat, by omega⟩
   have HD := Dec_calls m (by omega)
   rw [← Lib.itoa_nonneg m, ← hm] at HD
   refine wC_region (vm ?_)
   refine vv (v := str (lineTo x (l.take k) ++ [32])) (y_binop rfl rfl rfl (r_sadd (a := lineTo x (l.take k)) (b := [32]) (c := lineTo x (l.take k) ++ [32]) rfl (by rw [List.length_append, List.length_singleton]; omega))) ?_
   iterate 2 refine vm ?_
   obtain ⟨b19, o20, rfl⟩ := Rd.addr (St.rdo 0 S13 rfl) (by omega)
   refine vv (v := .pointer (some ⟨b19, o20 + k * 1, none⟩)) (y_indexAddr rfl rfl rfl (r_indexAddr k Tryd.underlying62 inf3 (by omega) (by omega))) ?_
   refine vv (y_load rfl rfl (r_load Tryd.underlying3 rfl (Rd.cl2 (i := 0) (St.rdo 0 S13 rfl) (fm_get (enc := (valC x)) (sz := 1) (fun _ => rfl) hx18 rfl)))) ?_
   refine cab en27 S13 (HD _) ?_; intro w21 S22; clear S13
   refine vv (v := str (lineTo x (l.take (k + 1)))) (y_binop rfl rfl rfl (r_sadd (a := lineTo x (l.take k) ++ [32]) (b := Lib.itoa (x.get x17.1)) (c := lineTo x (l.take (k + 1))) (by rw [lineTo_take hx18, List.append_assoc]; rfl) (by rw [lineTo_take hx18, List.length_append, List.length_cons]; omega))) ?_
   refine va ?_
   refine qk [2, 3, 5, 6] ?_
   refine wQ_blk_n (wQ_then (wC_region (vm ?_)))
   refine vv (v := .int .i64 ((k + 1 : Nat) : Int)) (y_binop rfl rfl rfl (r_add (by omega) (by omega))) ?_
   refine va ?_
   refine qk [2, 3, 5, 6] ?_
   refine wQ_round (k + 1) ?_ ⟨rfl, rfl, rfl, rfl, trivial⟩ (by first | omega | (dsimp only; omega))
   exact ⟨(by omega), (by rw [lineTo_take hx18, List.length_append, List.length_cons]; omega), S22⟩
  ·refine vv (ylssF h16) ?_
   refine qk [2, 3, 5, 6, 17] ?_
   refine wQ_then (wC_cond_f rfl (wC_exit (wQ_then_exit (wQ_then_exit (wQ_blk_same (wQ_then (wC_seq ?_)))))))
   obtain rfl : k = l.length := by omega
   have hlt : lineTo x (l.take l.length) = lineB x := by rw [List.take_length, line_at hf]
   rw [hlt]
   refine wC_region (vm ?_)
   refine va ?_
   refine qk [2] ?_
   refine x_te (pt ?_)
   exact ⟨rfl, S13.low⟩
end Go.Proofs.YtkjlafpafmihaaaDoor

namespace Go.Proofs.YtkjlafpafmihaaaDoor
open Go.ChangeShapes Go.WideShapes Go.RowKit

set_option maxRecDepth 100000 in
set_option maxHeartbeats 8000000 in
theorem ActsShown_calls (A : Option Addr) (c : Nat) (l : List Ac) (w : World) (h : Rd w w.heap.size 11 A l.length (l.flatMap Ac.cells)) :
    Calls Tryd.prog 7 #[.slice A l.length c] w (ShowPost w (showM l)) := by
 have S := (St.start w).addRd h; clear h
 refine fnw 38 Tryd.func7 ?_
 refine cw [0] ?_
 refine x_sr (va ?_)
 iterate 2 refine va ?_
 refine wL_nil (wQ_then (wC_seq (wC_seq (wC_region (vm ?_)))))
 refine vv (v := .int .i64 ((l.length : Nat) : Int)) (y_builtin (vs := [.slice A l.length c]) rfl ⟨rfl, trivial⟩ fun _ => r_len rfl Tryd.underlying22) ?_
 by_cases hbig : (100000 : Int) < (l.length : Int)
 ·refine vv (ygtrT hbig) ?_
  refine qk [0, 2, 3, 4, 10] ?_
  refine x_tysr (va ?_)
  iterate 2 refine va ?_
  refine qk [2, 3, 4] ?_
  refine x_teh (wQ_post (rs := [.tmp 2, .tmp 3, .tmp 4]) (vs := [.string ⟨#[]⟩, .int .i64 0, .int .i64 1]) rfl ⟨rfl, rfl, rfl, trivial⟩ ?_)
  rw [show_big hbig]
  exact ⟨rfl, S.low⟩
 ·refine vv (ygtrF hbig) ?_
  refine qk [0, 2, 3, 4, 10] ?_
  refine x_tnktsr (va ?_)
  refine qk [0, 2, 3, 4, 5] ?_
  refine x_tssr (va ?_)
  refine wL_nil (wQ_then (wC_block ?_))
  have S1 := S.nil 5 1; clear S
  change St _ _ _ [.own 5 1 (.slice none 0 0) 0 (byteCells []), _] at S1
  refine wC_loop (X := Nat × (List UInt8) × Nat × (Option Addr) × Nat) (fun xv => [(0, .slice A l.length c), (2, .string ⟨#[]⟩), (3, .int .i64 0), (4, .int .i64 0), (5, .slice xv.2.2.2.1 xv.2.2.1 xv.2.2.2.2), (6, .int .i64 ((xv.1 : Nat) : Int))]) (fun xv wr => (xv.1 ≤ l.length) ∧ (showGo l 0 [] = showGo (l.drop xv.1) xv.1 xv.2.1) ∧ (xv.2.1.length ≤ 118 * xv.1) ∧ (xv.2.2.1 = xv.2.1.length) ∧ St w.heap.size w wr [.own 5 1 (.slice xv.2.2.2.1 xv.2.2.1 xv.2.2.2.2) xv.2.2.1 (byteCells xv.2.1), .rd 11 A l.length ((l).flatMap Ac.cells)]) (fun xv => l.length - xv.1) (0, [], 0, none, 0) ?_ ?_ ?_
  ·exact ⟨Nat.zero_le _, rfl, Nat.le_refl _, rfl, S1⟩
  ·exact ⟨rfl, rfl, rfl, rfl, rfl, rfl, trivial⟩
  ·rintro ⟨k, s, n, A3, c3⟩ w2 ⟨hi4, hi5, hi6, hi7, S3⟩
   try dsimp only at hi4 hi5 hi6 hi7 S3; clear S1
   refine wC_sub (l' := [(0, .slice A l.length c), (2, .string ⟨#[]⟩), (3, .int .i64 0), (4, .int .i64 0), (5, .slice A3 n c3), (6, .int .i64 ((k : Nat) : Int))]) ⟨rfl, rfl, rfl, rfl, rfl, rfl, trivial⟩ (wC_seq (wC_seq (wC_region (vm ?_))))
   refine vm ?_
   refine vv (v := .int .i64 ((l.length : Nat) : Int)) (y_builtin (vs := [.slice A l.length c]) rfl ⟨rfl, trivial⟩ fun _ => r_len rfl Tryd.underlying22) ?_
   by_cases h8 : ((k : Nat) : Int) < ((l.length : Nat) : Int)
   ·refine vv (ylssT h8) ?_
    refine qk [0, 2, 3, 4, 5, 6, 14] ?_
    refine wQ_then (wC_cond_t rfl (wC_skip (wQ_then (wC_seq (wC_block (wC_seq (wC_region (vm ?_))))))))
    refine vm ?_
    obtain ⟨b9, o10, rfl⟩ := Rd.addr (St.rd 1 S3 rfl) (by omega)
    obtain ⟨x11, hx12⟩ := elm k (St.rd 1 S3 rfl) (by omega)
    refine vv (v := .pointer (some ⟨b9, o10 + k * 11, none⟩)) (y_indexAddr rfl rfl rfl (r_indexAddr k Tryd.underlying22 inf41 (by omega) (by omega))) ?_
    refine vv (y_load rfl rfl (r_load_agg (cs := Ac.cells x11) Tryd.underlying41 rfl inf41 rfl (Rd.rg2 (St.rd 1 S3 rfl) (fun _ _ h => fm_get (enc := Ac.cells) (sz := 11) (fun _ => rfl) hx12 h)))) ?_
    refine cab en15 S3 (ActFault_calls x11 _) ?_; intro w13 S14; clear S3
    refine va ?_
    refine qk [0, 2, 3, 4, 5, 6, 7] ?_
    refine x_tssr (vm ?_)
    by_cases h16 : actFault x11 = 0
    ·refine vv (yneqF h16) ?_
     refine qk [0, 2, 3, 4, 5, 6, 7, 23] ?_
     refine wQ_then (wC_cond_f rfl (wC_skip (wQ_then (wC_seq ?_))))
     obtain ⟨fl, hfl⟩ := zero_some h16
     have hll := line_len h16
     refine wC_region (vm ?_)
     iterate 2 refine vm ?_
     refine vv (v := .pointer (some ⟨b9, o10 + k * 11, none⟩)) (y_indexAddr rfl rfl rfl (r_indexAddr k Tryd.underlying22 inf41 (by omega) (by omega))) ?_
     refine vv (y_load rfl rfl (r_load_agg (cs := Ac.cells x11) Tryd.underlying41 rfl inf41 rfl (Rd.rg2 (St.rd 1 S14 rfl) (fun _ _ h => fm_get (enc := Ac.cells) (sz := 11) (fun _ => rfl) hx12 h)))) ?_
     refine cab en16 S14 (ActLine_calls x11 fl hfl h16 _) ?_; intro w17 S18; clear S14
     refine wL_appendS (b := lineB x11) (xs' := byteCells (s ++ lineB x11)) S18 (wn rfl) rfl rfl rfl rfl rfl Tryd.underlying33 Tryd.underlying9 infz5 (by omega) (by simp [byteCells]) ?_
     intro A20 c21 w22 hc24 hm25 S23; clear S18
     change St _ _ _ [.own 5 1 (.slice A20 (n + (lineB x11).length) c21) (n + (lineB x11).length) (byteCells (s ++ lineB x11)), _] at S23
     refine va ?_
     refine qk [0, 2, 3, 4, 5, 6] ?_
     refine x_tr (vm ?_)
     refine wL_new (V := fun b => .slice (some ⟨b, 0, none⟩) 1 1) (row := #[.int .u8 10]) (t := 5) S23 (wn rfl) rfl rfl (d_buildSlice (vs := [(0, .int .u8 10)]) rfl ⟨rfl, rfl, trivial⟩ (by kernel_rfl)) ?_; intro b26 w27 S28; clear S23
     refine wL_append (news := [.int .u8 10]) (xs' := byteCells (s ++ (lineB x11 ++ [10]))) 1 S28 (wn rfl) rfl rfl rfl rfl rfl rfl (St.bld (xs := [.int .u8 10]) 0 S28 rfl rfl rfl) Tryd.underlying33 infz5 rfl (by decide) (oneAll rfl) (by simp only [maxLen]; omega) (by omega) (by simp [byteCells]) ?_
     intro A29 c30 w31 hc33 hm34 S32; clear S28
     change St _ _ _ [_, .own 5 1 (.slice A29 ((n + (lineB x11).length) + 1) c30) ((n + (lineB x11).length) + 1) (byteCells (s ++ (lineB x11 ++ [10]))), _] at S32
     refine va ?_
     refine qk [0, 2, 3, 4, 5, 6] ?_
     refine wQ_blk_n (wQ_then (wC_region (vm ?_)))
     refine vv (v := .int .i64 ((k + 1 : Nat) : Int)) (y_binop rfl rfl rfl (r_add (by omega) (by omega))) ?_
     refine va ?_
     refine qk [0, 2, 3, 4, 5, 6] ?_
     have S35 : St _ _ _ [_, _] := S32.dels [0]; clear S32
     refine wQ_round (k + 1, s ++ (lineB x11 ++ [10]), (n + (lineB x11).length) + 1, A29, c30) ?_ ⟨rfl, rfl, rfl, rfl, rfl, rfl, trivial⟩ (by first | omega | (dsimp only; omega))
     exact ⟨(by dsimp only; omega), (by dsimp only; rw [hi5]; exact show_next hx12 h16), (by dsimp only; rw [List.length_append, List.length_append, List.length_singleton]; omega), (by dsimp only; rw [List.length_append, List.length_append, List.length_singleton]; omega), S35⟩
    ·refine vv (yneqT h16) ?_
     refine qk [0, 2, 3, 4, 5, 6, 7, 23] ?_
     refine x_tysr (vm ?_)
     refine vm ?_
     iterate 3 refine va ?_
     refine qk [2, 3, 4] ?_
     refine wQ_then (wC_ret (wQ_then_ret (wQ_blk_ret (wQ_then_ret (wQ_then_ret (wQ_blk_ret (wQ_then_ret (wQ_post (rs := [.tmp 2, .tmp 3, .tmp 4]) (vs := [.string ⟨#[]⟩, .int .i64 ((k : Nat) : Int), .int .i64 (actFault x11)]) rfl ⟨rfl, rfl, rfl, trivial⟩ ?_))))))))
     rw [show_go hbig]
     rw [hi5, show_bad hx12 h16]
     exact ⟨rfl, S14.low⟩
   ·refine vv (ylssF h8) ?_
    refine qk [0, 2, 3, 4, 5, 6, 14] ?_
    refine wQ_then (wC_cond_f rfl (wC_exit (wQ_then_exit (wQ_then_exit (wQ_blk_same (wQ_then (wC_seq ?_)))))))
    obtain rfl := hi7
    refine wC_region (vm ?_)
    refine vv (v := str s) (y_convert rfl rfl (r_b2s (b := s) Tryd.underlying33 Tryd.underlying5 Tryd.underlying9 (St.ord 0 S3 rfl) (fun e => List.eq_nil_of_length_eq_zero (own_none (St.own 0 S3 rfl) e)))) ?_
    iterate 3 refine va ?_
    refine qk [2, 3, 4] ?_
    refine x_te (wQ_post (rs := [.tmp 2, .tmp 3, .tmp 4]) (vs := [str s, .int .i64 0, .int .i64 0]) rfl ⟨rfl, rfl, rfl, trivial⟩ ?_)
    rw [show_go hbig]
    rw [hi5, show_end (by omega)]
    exact ⟨rfl, S3.low⟩
end Go.Proofs.YtkjlafpafmihaaaDoor

namespace Go.Proofs.YtkjlafpafmihaaaDoor
open Go.ChangeShapes Go.WideShapes Go.RowKit

def ActsPost (w : World) (l : List Ac) (e : Ending) (w' : World) : Prop := ∃ A c, e = .returned (.slice A l.length c) ∧ St w.heap.size w w' [.rdo 11 A l.length (l.flatMap Ac.cells)]

set_option maxRecDepth 100000 in
set_option maxHeartbeats 2000000 in
theorem acts_calls (A : Option Addr) (c : Nat) (l : List Ac) (w : World) (h : Rd w w.heap.size 11 A l.length (l.flatMap Ac.cells)) (hb : l.length * 88 ≤ reachBytes) :
    Calls Tryd.prog 5 #[.slice A l.length c] w (ActsPost w l) := by
 have S := (St.start w).addRd h; clear h
 have hb2 := hb
 unfold reachBytes at hb2
 refine fnw 5 Tryd.func5 ?_
 refine cw [0] ?_
 refine x_sr (va ?_)
 refine wL_nil (wQ_then (wC_seq ?_))
 have S1 := S.nil 41 11; clear S
 change St _ _ _ [.own 41 11 (.slice none 0 0) 0 ((([] : List Ac)).flatMap Ac.cells), _] at S1
 refine wC_region (vm ?_)
 refine wL_append (news := (l).flatMap Ac.cells) (xs' := (l).flatMap Ac.cells) 0 S1 (wn rfl) rfl rfl rfl rfl rfl rfl (St.rd 1 S1 rfl) Tryd.underlying22 infz41 rfl (by decide) (acs_one _) (by simp only [maxLen]; omega) (by omega) (by simp) ?_; intro A2 c3 w4 hc6 hm7 S5; clear S1
 change St _ _ _ [.own 41 11 (.slice A2 (0 + l.length) c3) (0 + l.length) ((l).flatMap Ac.cells), _] at S5
 refine va ?_
 refine qk [2] ?_
 refine x_te (pt ?_)
 have S8 : St _ _ _ [_] := S5.dels [1]; clear S5
 have S9 := S8.sealAll 0 rfl; clear S8
 change St _ _ _ [.rdo 11 A2 (0 + l.length) ((l).flatMap Ac.cells)] at S9
 rw [Nat.zero_add] at S9
 exact ⟨A2, c3, by rw [Nat.zero_add]; rfl, S9⟩

set_option maxRecDepth 100000 in
theorem ac_ne2 (x : Ac) (w : World) : (binOp .neq 41 (.agg (x.cells).toArray) (.agg (x.cells).toArray)).run Tryd.prog w = .ok (.bool false) w :=
  run_neq_self w (l := (.at_ (.int .i64) :: .at_ (.int .i64) :: .at_ (.int .i64) :: .at_ (.int .i64) :: .at_ (.int .i64) :: .at_ (.int .i64) :: .at_ (.int .i64) :: .at_ (.int .i64) :: .at_ (.int .i64) :: .at_ (.int .i64) :: .at_ (.int .i64) :: [])) (by kernel_rfl) (by kernel_rfl) (fun xs => by unfold mkV; rw [Tryd.underlying41]) ⟨⟨_, rfl⟩, ⟨_, rfl⟩, ⟨_, rfl⟩, ⟨_, rfl⟩, ⟨_, rfl⟩, ⟨_, rfl⟩, ⟨_, rfl⟩, ⟨_, rfl⟩, ⟨_, rfl⟩, ⟨_, rfl⟩, ⟨_, rfl⟩, trivial⟩

set_option maxRecDepth 100000 in
set_option maxHeartbeats 2000000 in
theorem sameActs_calls (A A' : Option Addr) (c c' : Nat) (l : List Ac) (w : World) (h : Rd w w.heap.size 11 A l.length ((l).flatMap Ac.cells)) (h' : Rd w w.heap.size 11 A' l.length ((l).flatMap Ac.cells)) (hl : l.length ≤ 1152921504606846976) :
    Calls Tryd.prog 8 #[.slice A l.length c, .slice A' l.length c'] w (BoolB w true) := by
 have S := ((St.start w).addRd h').addRd h
 refine fnw 26 Tryd.func8 ?_
 refine cw [0, 1] ?_
 refine x_sr (va ?_)
 refine wL_nil (wQ_then (wC_seq (wC_seq (wC_region (vm ?_)))))
 refine vv (v := .int .i64 ((l.length : Nat) : Int)) (y_builtin (vs := [.slice A l.length c]) rfl ⟨rfl, trivial⟩ fun _ => r_len rfl Tryd.underlying22) ?_
 refine vm ?_
 refine vv (v := .int .i64 ((l.length : Nat) : Int)) (y_builtin (vs := [.slice A' l.length c']) rfl ⟨rfl, trivial⟩ fun _ => r_len rfl Tryd.underlying22) ?_
 refine vv (yneqF rfl) ?_
 refine qk [0, 1, 4, 10] ?_
 refine x_tnktssr (va ?_)
 refine qk [0, 1, 4, 5] ?_
 refine wQ_then (wC_block (wC_loop (X := Nat) (fun xv => [(0, .slice A l.length c), (1, .slice A' l.length c'), (4, .bool false), (5, .int .i64 ((xv : Nat) : Int))]) (fun xv wr => (xv ≤ l.length) ∧ St w.heap.size w wr [.rd 11 A l.length ((l).flatMap Ac.cells), .rd 11 A' l.length ((l).flatMap Ac.cells)]) (fun xv => l.length - xv) (0) ?_ ?_ ?_))
 ·exact ⟨Nat.zero_le _, S⟩
 ·exact ⟨rfl, rfl, rfl, rfl, trivial⟩
 ·rintro k w1 ⟨hi3, S2⟩
  try dsimp only at hi3 S2; clear S
  refine wC_sub (l' := [(0, .slice A l.length c), (1, .slice A' l.length c'), (4, .bool false), (5, .int .i64 ((k : Nat) : Int))]) ⟨rfl, rfl, rfl, rfl, trivial⟩ (wC_seq (wC_seq (wC_region (vm ?_))))
  refine vm ?_
  refine vv (v := .int .i64 ((l.length : Nat) : Int)) (y_builtin (vs := [.slice A l.length c]) rfl ⟨rfl, trivial⟩ fun _ => r_len rfl Tryd.underlying22) ?_
  by_cases h4 : ((k : Nat) : Int) < ((l.length : Nat) : Int)
  ·refine vv (ylssT h4) ?_
   refine qk [0, 1, 4, 5, 14] ?_
   refine wQ_then (wC_cond_t rfl (wC_skip (wQ_then (wC_seq (wC_block (wC_seq (wC_quiet S2 mixed (by kernel_rfl) ?_)))))))
   refine uv (v := .slice A l.length c) (fun _ _ => ym) ?_
   refine uv (v := .int .i64 ((k : Nat) : Int)) (fun _ _ => ym) ?_
   obtain ⟨b7, o8, rfl⟩ := Rd.addr (St.rd 0 S2 rfl) (by omega)
   obtain ⟨x9, hx10⟩ := elm k (St.rd 0 S2 rfl) (by omega)
   refine uv (v := .pointer (some ⟨b7, o8 + k * 11, none⟩)) (fun _ _ => (y_indexAddr rfl rfl rfl (r_indexAddr k Tryd.underlying22 inf41 (by omega) (by omega)))) ?_
   refine uv (v := .agg #[.int .i64 x9.kd, .int .i64 x9.nd, .int .i64 x9.qu, .int .i64 x9.at_, .int .i64 x9.kp, .int .i64 x9.ek, .int .i64 x9.ep, .int .i64 x9.ei, .int .i64 x9.eb, .int .i64 x9.eh, .int .i64 x9.en]) (fun _ Sx12 => (y_load rfl rfl (r_load_agg (cs := Ac.cells x9) Tryd.underlying41 rfl inf41 rfl (Rd.rg2 (St.rd 0 Sx12 rfl) (fun _ _ h => fm_get (enc := Ac.cells) (sz := 11) (fun _ => rfl) hx10 h))))) ?_
   refine uv (v := .slice A' l.length c') (fun _ _ => ym) ?_
   refine uv (v := .int .i64 ((k : Nat) : Int)) (fun _ _ => ym) ?_
   obtain ⟨b15, o16, rfl⟩ := Rd.addr (St.rd 1 S2 rfl) (by omega)
   refine uv (v := .pointer (some ⟨b15, o16 + k * 11, none⟩)) (fun _ _ => (y_indexAddr rfl rfl rfl (r_indexAddr k Tryd.underlying22 inf41 (by omega) (by omega)))) ?_
   refine uv (v := .agg #[.int .i64 x9.kd, .int .i64 x9.nd, .int .i64 x9.qu, .int .i64 x9.at_, .int .i64 x9.kp, .int .i64 x9.ek, .int .i64 x9.ep, .int .i64 x9.ei, .int .i64 x9.eb, .int .i64 x9.eh, .int .i64 x9.en]) (fun _ Sx18 => (y_load rfl rfl (r_load_agg (cs := Ac.cells x9) Tryd.underlying41 rfl inf41 rfl (Rd.rg2 (St.rd 1 Sx18 rfl) (fun _ _ h => fm_get (enc := Ac.cells) (sz := 11) (fun _ => rfl) hx10 h))))) ?_
   refine uv (v := .bool false) (fun _ _ => (y_binop rfl rfl rfl (r_eqg (by kernel_rfl) (ac_ne2 x9  _)))) ?_
   refine wU_nil fun w20 S21 => ?_; clear S2
   refine pk [0, 1, 4, 5, 25] ?_
   refine wQ_then (wC_cond_f rfl (wC_skip (wQ_blk_n (wQ_then (wC_region (vm ?_))))))
   refine vv (v := .int .i64 ((k + 1 : Nat) : Int)) (y_binop rfl rfl rfl (r_add (by omega) (by omega))) ?_
   refine va ?_
   refine qk [0, 1, 4, 5] ?_
   refine wQ_round (k + 1) ?_ ⟨rfl, rfl, rfl, rfl, trivial⟩ (by first | omega | (dsimp only; omega))
   exact ⟨(by omega), S21⟩
  ·refine vv (ylssF h4) ?_
   refine qk [0, 1, 4, 5, 14] ?_
   refine wQ_then (wC_cond_f rfl (wC_exit (wQ_then_exit (wQ_then_exit (wQ_blk_same (wQ_then (wC_seq (wC_region (va ?_)))))))))
   refine qk [4] ?_
   refine x_te (pt ?_)
   exact ⟨rfl, S2.low⟩

set_option maxRecDepth 100000 in
set_option maxHeartbeats 2000000 in
theorem linesShows_calls (A : Option Addr) (c : Nat) (l : List Ac) (w : World) (ht : TabB w) (h : Rd w w.heap.size 11 A l.length (l.flatMap Ac.cells)) (hb : l.length * 88 ≤ reachBytes) :
    Calls Tryd.prog 3 #[.slice A l.length c] w (fun e w' => e = .returned (.bool true) ∧ Below w.heap.size w w') := by
 have S := (St.start w).addRd h; clear h
 have hb2 := hb
 unfold reachBytes at hb2
 have H1 := fun A c w ht h => Show_calls A c l w ht h
 have H2 := fun A c w h => ActsShown_calls A c l w h
 generalize showM l = R at H1 H2
 refine fnw 42 Tryd.func3 ?_
 refine cw [0] ?_
 refine x_sr (va ?_)
 refine wL_nil (wQ_then (wC_seq (wC_region (vm ?_))))
 refine cal en5 (acts_calls A c l _ (St.rd 0 S rfl) hb) ?_
 rintro _ w3 ⟨A1, c2, rfl, T5⟩
 refine ⟨_, rfl, ?_⟩
 have S4 := S.ext T5 rfl; clear T5 S
 change St _ _ _ [.rdo 11 A1 l.length ((l).flatMap Ac.cells), _] at S4
 refine va ?_
 refine qk [0, 2, 3] ?_
 refine x_tsr (vm ?_)
 refine cab en6 S4 (H1 A1 c2 _ (ht.on S4.low) (St.rdo 0 S4 rfl)) ?_; intro w6 S7; clear S4
 refine vm ?_
 refine vv yx ?_
 refine vv yx ?_
 refine vv yx ?_
 iterate 3 refine va ?_
 refine qk [0, 2, 3, 4, 5, 6] ?_
 refine x_tsr (vm ?_)
 refine cab en7 S7 (H2 A c _ (St.rd 1 S7 rfl)) ?_; intro w9 S10; clear S7
 refine vm ?_
 refine vv yx ?_
 refine vv yx ?_
 refine vv yx ?_
 iterate 3 refine va ?_
 refine qk [0, 2, 3, 4, 5, 6, 7, 8, 9] ?_
 refine x_tsr (vm ?_)
 refine vm ?_
 refine vv (v := .bool true) (y_binop rfl rfl rfl (r_seql (by simp))) ?_
 refine vm ?_
 refine vg ym ?_
 refine vg ym ?_
 refine vg (yeqlT rfl) ?_
 refine vv ypT ?_
 refine vm ?_
 refine vg ym ?_
 refine vg ym ?_
 refine vg (yeqlT rfl) ?_
 refine vv ypT ?_
 refine vm ?_
 refine vg ym ?_
 refine vg ym ?_
 refine calg en8 (sameActs_calls A1 A c2 c l _ (St.rdo 0 S10 rfl) (St.rd 1 S10 rfl) (by omega)) ?_
 rintro _ w12 ⟨rfl, hb14⟩
 refine ⟨_, rfl, ?_⟩
 have S13 := S10.on hb14; clear hb14 S10
 refine vv ypT ?_
 refine va ?_
 refine qk [2] ?_
 refine x_te (pt ?_)
 exact ⟨rfl, S13.low⟩

set_option maxRecDepth 100000 in
instance : IntRec Ac where
  size := 11
  ints x := x.ints
  of l := ⟨l.getD 0 0, l.getD 1 0, l.getD 2 0, l.getD 3 0, l.getD 4 0, l.getD 5 0, l.getD 6 0, l.getD 7 0, l.getD 8 0, l.getD 9 0, l.getD 10 0⟩
  pos := by omega
  len _ := rfl
  inv xs h := by
    obtain ⟨a1, xs, rfl⟩ := List.exists_cons_of_length_eq_add_one h
    obtain ⟨a2, xs, rfl⟩ := List.exists_cons_of_length_eq_add_one (Nat.succ.inj h)
    have h := Nat.succ.inj (Nat.succ.inj h)
    obtain ⟨a3, xs, rfl⟩ := List.exists_cons_of_length_eq_add_one h
    obtain ⟨a4, xs, rfl⟩ := List.exists_cons_of_length_eq_add_one (Nat.succ.inj h)
    have h := Nat.succ.inj (Nat.succ.inj h)
    obtain ⟨a5, xs, rfl⟩ := List.exists_cons_of_length_eq_add_one h
    obtain ⟨a6, xs, rfl⟩ := List.exists_cons_of_length_eq_add_one (Nat.succ.inj h)
    have h := Nat.succ.inj (Nat.succ.inj h)
    obtain ⟨a7, xs, rfl⟩ := List.exists_cons_of_length_eq_add_one h
    obtain ⟨a8, xs, rfl⟩ := List.exists_cons_of_length_eq_add_one (Nat.succ.inj h)
    have h := Nat.succ.inj (Nat.succ.inj h)
    obtain ⟨a9, xs, rfl⟩ := List.exists_cons_of_length_eq_add_one h
    obtain ⟨a10, xs, rfl⟩ := List.exists_cons_of_length_eq_add_one (Nat.succ.inj h)
    have h := Nat.succ.inj (Nat.succ.inj h)
    obtain ⟨a11, xs, rfl⟩ := List.exists_cons_of_length_eq_add_one h
    obtain rfl := List.eq_nil_of_length_eq_zero (Nat.succ.inj h)
    rfl
set_option maxRecDepth 100000 in
theorem flat_acs : flat Tryd.prog 30 22 = some [.sl 88 (List.replicate 11 (.int .i64))] := by kernel_rfl
set_option maxRecDepth 100000 in
theorem arg_acts {W : World} {v : Value} (h : ArgOk Tryd.prog W v 22) : ∃ A c, ∃ l : List Ac, v = .slice A l.length c ∧ Rd W W.heap.size 11 A l.length (l.flatMap Ac.cells) ∧ l.length ≤ c ∧ c * 88 ≤ reachBytes := by
  obtain ⟨⟨base, hk⟩, l, hl, ha⟩ := h
  rw [flat_acs] at hl
  cases hl
  obtain ⟨A, n, c, rfl⟩ := okWide_slice Tryd.underlying22 hk
  obtain ⟨a, l1, e, h1, _⟩ := All2.cons_ ha
  simp [Value.cells] at e
  obtain ⟨rfl, _⟩ := e
  obtain ⟨A', n', c', l, e, hr, hn, hc, hb, h0⟩ := open_recs (α := Ac) h1
  simp only [Value.slice.injEq] at e
  obtain ⟨rfl, rfl, rfl⟩ := e
  have hlen : l.length = n := Rd.rec_len (α := Ac) hr
  subst hlen
  exact ⟨A, c, l, rfl, hr, hn, hb⟩
set_option maxRecDepth 100000 in
theorem linesShows_walk (W : World) (ht : TabB W) (args : Array Value) (h : All2 (ArgOk Tryd.prog W) args.toList Tryd.f3.params.toList) :
    Calls Tryd.prog 3 args W fun e W' => e = .returned (.bool true) ∧ Below W.heap.size W W' := by
  rw [Tryd.params3] at h
  obtain ⟨v, l1, hv, h1, h0⟩ := All2.cons_ h
  have h4 := All2.nil_ h0
  subst h4
  obtain rfl : args = #[v] := by cases args; simp_all
  obtain ⟨A, c, l, rfl, hr, hn, hb⟩ := arg_acts h1
  exact linesShows_calls A c l W ht hr (by omega)
end Go.Proofs.YtkjlafpafmihaaaDoor

