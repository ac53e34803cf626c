/- Parts of proofs: lemmas on memory, on single functions and on the plain models; no condition of their own. -/
import Derived.Test.YtkjlafpafmihaaaDoorRows
import Derived.WalkKit
import Derived.ProofKit
import Derived.OpenShut
import Derived.SizedLaws
import Derived.WalkSpells
import Derived.WalkLawsBesides
import Derived.Handy
import Derived.Deep.QuietTactic
import Derived.BigQuiet
import Derived.Lib.Hide
import Derived.Maps.AppendAt
import Derived.Deep.AppendLies
import Derived.RegionTactic
import Derived.OwnWalk
import Derived.Laws.Tables
import Derived.Deep.MidRow
import Derived.StillTailTactics
import Derived.OrdersHeld
import Derived.Deep.RegionHeld3
import Derived.Laws.IdiomCopy
import Derived.ChangeKeysEq
import Derived.Laws.BitsAllLaws
import Derived.Scope
import Derived.Lib.AppendStr
import Derived.Lib.ItoaLen
import Derived.Lib.BufferRead
import Derived.Laws.IdiomStrings
import Derived.Lib.Builder
import Derived.Shelf.Strings.Builder1
import Derived.Shelf.LaysM
import Derived.Shelf.Strconv.Itoa3
import Derived.Lib.ItoaMem
import Derived.Lib.AppendIntMem
import Derived.Lib.QuietBelow
import Derived.Test.YtkjlafpafmihaaaDoorG173045c9580a
import Derived.Test.YtkjlafpafmihaaaDoorG3606cc3ac865
import Derived.Test.YtkjlafpafmihaaaDoorG97f8767f7743
import Derived.Test.YtkjlafpafmihaaaDoorGa487125d06f9
import Derived.Test.YtkjlafpafmihaaaDoorGa6cfea583cdc
import Derived.Test.YtkjlafpafmihaaaDoorGab8ecdf11465
import Derived.Test.YtkjlafpafmihaaaDoorGc80458afdb4f
import Derived.Test.YtkjlafpafmihaaaDoorGd3cfdc1357eb
import Derived.Test.YtkjlafpafmihaaaDoorGea90f12dfe92
import Derived.Test.YtkjlafpafmihaaaDoorGedcf6e6df767
import Derived.Test.YtkjlafpafmihaaaDoorGfe753c0b6274
set_option linter.unusedVariables false
set_option linter.unusedSimpArgs false

namespace Go.Proofs.YtkjlafpafmihaaaDoor
open Go.ChangeShapes Go.WideShapes Go.RowKit
def wordB (x : Ac) : List UInt8 := (wordOf x.kd x.ek).data.toList
theorem wordB_len (x : Ac) : (wordB x).length ≤ 7 := by
  have gen : ∀ kd ek : Int, (wordOf kd ek).data.toList.length ≤ 7 := fun kd ek => by
    rcases kinds kd ek with rfl | rfl | rfl | rfl | rfl | rfl | rfl | rfl | rfl | ⟨rfl, rfl⟩ | ⟨rfl, rfl⟩ | ⟨rfl, rfl⟩ | hn
    all_goals first | (rw [wordno _ _ hn]; exact Nat.zero_le _) | exact Nat.le_of_ble_eq_true rfl
  exact gen _ _
def numB (x : Ac) (s : List UInt8) (p : Nat × Int) : List UInt8 := s ++ 32 :: Lib.itoa (x.get p.1)
def lineTo (x : Ac) (l : List (Nat × Int)) : List UInt8 := l.foldl (numB x) (wordB x)
def lineB (x : Ac) : List UInt8 := match formL x.kd x.ek with
  | none => []
  | some l => lineTo x l
theorem lineTo_take {x : Ac} {l : List (Nat × Int)} {k : Nat} {p : Nat × Int} (h : l[k]? = some p) : lineTo x (l.take (k + 1)) = lineTo x (l.take k) ++ 32 :: Lib.itoa (x.get p.1) := by
  unfold lineTo
  rw [List.take_add_one, h, List.foldl_append]
  rfl
theorem line_at {x : Ac} {l : List (Nat × Int)} (h : formL x.kd x.ek = some l) : lineB x = lineTo x l := by unfold lineB; rw [h]
/-- What an act that may be holds in its numbers. -/
theorem num_in {x : Ac} {l : List (Nat × Int)} (hf : formL x.kd x.ek = some l) (h0 : actFault x = 0) : ∀ p ∈ l, 0 ≤ x.get p.1 ∧ x.get p.1 ≤ p.2 := by
  have ha : l.all (inB x) = true := by
    by_cases h : l.all (inB x) = true
    · exact h
    · rw [af_range hf h] at h0; cases h0
  intro p hp
  have := List.all_eq_true.1 ha p hp
  simpa [inB] using this
theorem most_le {kd ek : Int} {l : List (Nat × Int)} (h : formL kd ek = some l) : ∀ p ∈ l, p.2 ≤ 1073741824 := by
  rcases kinds kd ek with rfl | rfl | rfl | rfl | rfl | rfl | rfl | rfl | rfl | ⟨rfl, rfl⟩ | ⟨rfl, rfl⟩ | ⟨rfl, rfl⟩ | hn
  all_goals first | (rw [hn] at h; cases h; done) | (simp [formL] at h; subst h; decide)
theorem zero_some {x : Ac} (h : actFault x = 0) : ∃ l, formL x.kd x.ek = some l := by
  rcases hf : formL x.kd x.ek with _ | l
  · rw [af_none hf] at h; cases h
  · exact ⟨l, rfl⟩
theorem line_len {x : Ac} (h : actFault x = 0) : (lineB x).length ≤ 117 := by
  obtain ⟨l, hf⟩ := zero_some h
  rw [line_at hf]
  have hl := form_len hf
  have gen : ∀ (l : List (Nat × Int)) (s : List UInt8), (∀ p ∈ l, 0 ≤ x.get p.1 ∧ x.get p.1 ≤ 1073741824) → (l.foldl (numB x) s).length ≤ s.length + 22 * l.length := by
    intro l
    induction l with
    | nil => intro s _; exact Nat.le_refl _
    | cons p l ih =>
      intro s hp
      have h1 := ih (numB x s p) (fun q hq => hp q (List.mem_cons_of_mem _ hq))
      have h2 := hp p (List.mem_cons_self ..)
      have h3 := Lib.itoa_length_le (x.get p.1) (by omega) (by omega)
      have h4 : (numB x s p).length = s.length + ((Lib.itoa (x.get p.1)).length + 1) := by simp [numB]
      rw [List.foldl_cons, List.length_cons]
      omega
  have := gen l (wordB x) (fun p hp => ⟨(num_in hf h p hp).1, Int.le_trans (num_in hf h p hp).2 (most_le hf p hp)⟩)
  have hw := wordB_len x
  unfold lineTo
  omega
def SPost (w : World) (s : List UInt8) (e : Ending) (w' : World) : Prop := e = .returned (str s) ∧ Below w.heap.size w w'
/-- The table lies in the world and stays. -/
def TabB (w : World) : Prop := Lib.TabBelow Tryd.prog w.heap.size w powN .u64 Lib.pow10Tab
theorem TabB.on {w w' : World} (h : TabB w) (hb : Below w.heap.size w w') : TabB w' := fun w2 h2 => h w2 (hb.trans (h2.mono hb.size))
theorem itoa_post (n : Int) (h0 : -9223372036854775808 ≤ n) (h1 : n ≤ 9223372036854775807) (w : World) (ht : TabB w) : Calls Tryd.prog 22 #[.int .i64 n] w (SPost w (Lib.itoa n)) :=
  (itoa_calls n h0 h1 w ht.here).mono fun e w' h => by
    obtain ⟨rfl, k, os, rfl⟩ := h
    exact ⟨rfl, below_regrown w _ os⟩
end Go.Proofs.YtkjlafpafmihaaaDoor

namespace Go.Proofs.YtkjlafpafmihaaaDoor
open Go.ChangeShapes Go.WideShapes Go.RowKit

set_option maxRecDepth 100000 in
set_option maxHeartbeats 8000000 in
theorem line_calls (x : Ac) (l : List (Nat × Int)) (hf : formL x.kd x.ek = some l) (h0 : actFault x = 0) (w : World) (ht : TabB w) :
    Calls Tryd.prog 13 #[.agg #[.int .i64 x.kd, .int .i64 x.nd, .int .i64 x.qu, .int .i64 x.at_, .int .i64 x.kp, .int .i64 x.ek, .int .i64 x.ep, .int .i64 x.ei, .int .i64 x.eb, .int .i64 x.eh, .int .i64 x.en]] w (SPost w (lineB x ++ [10])) := by
 have S := St.start w
 refine fnw 30 Tryd.func13 ?_
 refine cw [0] ?_
 refine x_sr (nb (row := #[.int .i64 x.kd, .int .i64 x.nd, .int .i64 x.qu, .int .i64 x.at_, .int .i64 x.kp, .int .i64 x.ek, .int .i64 x.ep, .int .i64 x.ei, .int .i64 x.eb, .int .i64 x.eh, .int .i64 x.en]) S ?_); intro b1 w2 S3; clear S
 refine va ?_
 refine qk [1, 2] ?_
 refine wQ_then (wC_seq ?_)
 have HF := fun w h => form_calls b1 x w h
 rw [hf] at HF
 have hl5 := form_len hf
 refine wC_region (wL_call (wn rfl) rfl rfl (e_call (vs := [.pointer (some ⟨b1, 0, none⟩)]) rfl en20 ⟨rfl, trivial⟩) (HF _ (St.bld 0 S3 rfl rfl rfl)) ?_)
 rintro _ w5 ⟨A4, rfl, T7⟩
 refine ⟨_, rfl, ?_⟩
 have S6 := S3.ext T7 rfl; clear T7 S3
 change St _ _ _ [.rdo 2 A4 l.length ((l).flatMap (slotCells b1)), _] at S6
 refine vm ?_
 refine vv yx ?_
 refine vv yx ?_
 refine vv yx ?_
 iterate 3 refine va ?_
 refine qk [2, 3, 4] ?_
 refine x_tssr (vm ?_)
 refine vv (v := .int .i64 ((l.length : Nat) : Int)) (y_builtin (vs := [.slice A4 l.length l.length]) rfl ⟨rfl, trivial⟩ fun _ => r_len rfl Tryd.underlying53) ?_
 refine vm ?_
 refine qk [2, 3, 13, 14, 15] ?_
 refine wQ_then (wC_block (wC_loop (X := Nat) (fun xv => [(2, .string ⟨#[]⟩), (13, .slice A4 l.length l.length), (14, .int .i64 ((l.length : Nat) : Int)), (3, str (lineTo x (l.take xv))), (15, .int .i64 ((xv : Nat) : Int))]) (fun xv wr => (xv ≤ l.length) ∧ ((lineTo x (l.take xv)).length ≤ 7 + 22 * xv) ∧ St w.heap.size w wr [.rdo 2 A4 l.length ((l).flatMap (slotCells b1)), .blk b1 #[.int .i64 x.kd, .int .i64 x.nd, .int .i64 x.qu, .int .i64 x.at_, .int .i64 x.kp, .int .i64 x.ek, .int .i64 x.ep, .int .i64 x.ei, .int .i64 x.eb, .int .i64 x.eh, .int .i64 x.en] 41]) (fun xv => l.length - xv) (0) ?_ ?_ ?_))
 ·exact ⟨Nat.zero_le _, wordB_len x, S6⟩
 ·exact ⟨rfl, rfl, rfl, rfl, rfl, trivial⟩
 ·rintro k w8 ⟨hi10, hi11, S9⟩
  try dsimp only at hi10 hi11 S9; clear S6
  refine wC_sub (l' := [(2, .string ⟨#[]⟩), (13, .slice A4 l.length l.length), (14, .int .i64 ((l.length : Nat) : Int)), (3, str (lineTo x (l.take k))), (15, .int .i64 ((k : Nat) : Int))]) ⟨rfl, rfl, rfl, rfl, rfl, trivial⟩ (wC_seq (wC_region ?_))
  by_cases h12 : ((k : Nat) : Int) < ((l.length : Nat) : Int)
  ·refine vv (ylssT h12) ?_
   refine wL_nil (wQ_then (wC_seq (wC_cond_t rfl (wC_skip (wQ_then (wC_seq (wC_block (wC_seq (wC_region ?_)))))))))
   obtain ⟨b13, o14, rfl⟩ := Rd.addr (St.rdo 0 S9 rfl) (by omega)
   obtain ⟨x15, hx16⟩ := elm k (St.rdo 0 S9 rfl) (by omega)
   refine vv (v := .pointer (some ⟨b13, o14 + k * 2, none⟩)) (y_indexAddr rfl rfl rfl (r_indexAddr k Tryd.underlying53 inf59 (by omega) (by omega))) ?_
   refine vv (y_load rfl rfl (r_load_agg (cs := (slotCells b1) x15) Tryd.underlying59 rfl inf59 rfl (Rd.rg2 (St.rdo 0 S9 rfl) (fun _ _ h => fm_get (enc := (slotCells b1)) (sz := 2) (fun _ => rfl) hx16 h)))) ?_
   refine na (row := #[.pointer none, .int .i64 0]) S9 Tryd.zeroValue59 ?_; intro b17 w18 S19; clear S9
   refine sa 0 S19 inf59 ?_; intro w20 S21; clear S19
   refine qk [2, 13, 14, 3, 15, 7] ?_
   refine wQ_then ?_
   have hp := form_lt hf x15 (List.mem_of_getElem? hx16)
   have hq := num_in hf h0 x15 (List.mem_of_getElem? hx16)
   have hq2 := most_le hf x15 (List.mem_of_getElem? hx16)
   have hit := Lib.itoa_length_le (x.get x15.1) (by omega) (by omega)
   refine wC_region (vm ?_)
   refine vv (yfa 0 fa59_0) ?_
   refine vv (ylc 0 S21 Tryd.underlying57) ?_
   refine vv (y_nil rfl rfl trivial) ?_
   refine vv (v := .int .i64 (x.get x15.1)) (y_load rfl rfl (r_load Tryd.underlying3 rfl (St.cl 2 S21 rfl (Ac.cellA x hp.2.1)))) ?_
   refine cab en22 S21 (itoa_post (x.get x15.1) (by omega) (by omega) _ (ht.on S21.low)) ?_; intro w22 S23; clear S21
   refine vv (v := str (32 :: Lib.itoa (x.get x15.1))) (y_binop rfl rfl rfl (r_sadd (a := [32]) (b := Lib.itoa (x.get x15.1)) (c := 32 :: Lib.itoa (x.get x15.1)) rfl (by rw [List.length_cons]; omega))) ?_
   refine vv (v := str (lineTo x (l.take (k + 1)))) (y_binop rfl rfl rfl (r_sadd (a := lineTo x (l.take k)) (b := 32 :: Lib.itoa (x.get x15.1)) (c := lineTo x (l.take (k + 1))) (lineTo_take hx16).symm (by rw [lineTo_take hx16, List.length_append, List.length_cons]; omega))) ?_
   refine va ?_
   refine qk [2, 13, 14, 3, 15] ?_
   refine wQ_blk_n (wQ_then (wC_region (vv (v := .int .i64 ((k + 1 : Nat) : Int)) (y_binop rfl rfl rfl (r_add (by omega) (by omega))) ?_)))
   refine vm ?_
   refine qk [2, 13, 14, 3, 15] ?_
   have S25 : St _ _ _ [_, _] := S23.dels [0]; clear S23
   refine wQ_round (k + 1) ?_ ⟨rfl, rfl, rfl, rfl, rfl, trivial⟩ (by first | omega | (dsimp only; omega))
   exact ⟨(by omega), (by rw [lineTo_take hx16, List.length_append, List.length_cons]; omega), S25⟩
  ·refine vv (ylssF h12) ?_
   refine wL_nil (wQ_then (wC_seq (wC_cond_f rfl (wC_exit (wQ_then_exit (wQ_then_exit (wQ_blk_same (wQ_then (wC_seq ?_)))))))))
   obtain rfl : k = l.length := by omega
   have hlt : lineTo x (l.take l.length) = lineB x := by rw [List.take_length, line_at hf]
   have hll := line_len h0
   rw [hlt]
   refine wC_region (vm ?_)
   refine vv (v := str (lineB x ++ [10])) (y_binop rfl rfl rfl (r_sadd (a := lineB x) (b := [10]) (c := lineB x ++ [10]) rfl (by rw [List.length_append]; simp only [List.length_cons, List.length_nil]; omega))) ?_
   refine va ?_
   refine qk [2] ?_
   refine x_te (wQ_post (rs := [.tmp 2]) (vs := [str (lineB x ++ [10])]) rfl ⟨rfl, trivial⟩ ?_)
   exact ⟨rfl, S9.low⟩
end Go.Proofs.YtkjlafpafmihaaaDoor

namespace Go.Proofs.YtkjlafpafmihaaaDoor
open Go.ChangeShapes Go.WideShapes Go.RowKit

set_option maxRecDepth 100000 in
theorem ac_ne2 (x : Ac) (w : World) : (binOp .neq 41 (.agg (x.cells).toArray) (.agg (x.cells).toArray)).run Tryd.prog w = .ok (.bool false) w :=
  run_neq_self w (l := (.at_ (.int .i64) :: .at_ (.int .i64) :: .at_ (.int .i64) :: .at_ (.int .i64) :: .at_ (.int .i64) :: .at_ (.int .i64) :: .at_ (.int .i64) :: .at_ (.int .i64) :: .at_ (.int .i64) :: .at_ (.int .i64) :: .at_ (.int .i64) :: [])) (by kernel_rfl) (by kernel_rfl) (fun xs => by unfold mkV; rw [Tryd.underlying41]) ⟨⟨_, rfl⟩, ⟨_, rfl⟩, ⟨_, rfl⟩, ⟨_, rfl⟩, ⟨_, rfl⟩, ⟨_, rfl⟩, ⟨_, rfl⟩, ⟨_, rfl⟩, ⟨_, rfl⟩, ⟨_, rfl⟩, ⟨_, rfl⟩, trivial⟩

set_option maxRecDepth 100000 in
set_option maxHeartbeats 2000000 in
theorem sameActs_calls (A A' : Option Addr) (c c' : Nat) (l : List Ac) (w : World) (h : Rd w w.heap.size 11 A l.length ((l).flatMap Ac.cells)) (h' : Rd w w.heap.size 11 A' l.length ((l).flatMap Ac.cells)) (hl : l.length ≤ 1152921504606846976) :
    Calls Tryd.prog 8 #[.slice A l.length c, .slice A' l.length c'] w (BoolB w true) := by
 have S := ((St.start w).addRd h').addRd h
 refine fnw 26 Tryd.func8 ?_
 refine cw [0, 1] ?_
 refine x_sr (va ?_)
 refine wL_nil (wQ_then (wC_seq (wC_seq (wC_region (vm ?_)))))
 refine vv (v := .int .i64 ((l.length : Nat) : Int)) (y_builtin (vs := [.slice A l.length c]) rfl ⟨rfl, trivial⟩ fun _ => r_len rfl Tryd.underlying22) ?_
 refine vm ?_
 refine vv (v := .int .i64 ((l.length : Nat) : Int)) (y_builtin (vs := [.slice A' l.length c']) rfl ⟨rfl, trivial⟩ fun _ => r_len rfl Tryd.underlying22) ?_
 refine vv (yneqF rfl) ?_
 refine qk [0, 1, 4, 10] ?_
 refine x_tnktssr (va ?_)
 refine qk [0, 1, 4, 5] ?_
 refine wQ_then (wC_block (wC_loop (X := Nat) (fun xv => [(0, .slice A l.length c), (1, .slice A' l.length c'), (4, .bool false), (5, .int .i64 ((xv : Nat) : Int))]) (fun xv wr => (xv ≤ l.length) ∧ St w.heap.size w wr [.rd 11 A l.length ((l).flatMap Ac.cells), .rd 11 A' l.length ((l).flatMap Ac.cells)]) (fun xv => l.length - xv) (0) ?_ ?_ ?_))
 ·exact ⟨Nat.zero_le _, S⟩
 ·exact ⟨rfl, rfl, rfl, rfl, trivial⟩
 ·rintro k w1 ⟨hi3, S2⟩
  try dsimp only at hi3 S2; clear S
  refine wC_sub (l' := [(0, .slice A l.length c), (1, .slice A' l.length c'), (4, .bool false), (5, .int .i64 ((k : Nat) : Int))]) ⟨rfl, rfl, rfl, rfl, trivial⟩ (wC_seq (wC_seq (wC_region (vm ?_))))
  refine vm ?_
  refine vv (v := .int .i64 ((l.length : Nat) : Int)) (y_builtin (vs := [.slice A l.length c]) rfl ⟨rfl, trivial⟩ fun _ => r_len rfl Tryd.underlying22) ?_
  by_cases h4 : ((k : Nat) : Int) < ((l.length : Nat) : Int)
  ·refine vv (ylssT h4) ?_
   refine qk [0, 1, 4, 5, 14] ?_
   refine wQ_then (wC_cond_t rfl (wC_skip (wQ_then (wC_seq (wC_block (wC_seq (wC_quiet S2 mixed (by kernel_rfl) ?_)))))))
   refine uv (v := .slice A l.length c) (fun _ _ => ym) ?_
   refine uv (v := .int .i64 ((k : Nat) : Int)) (fun _ _ => ym) ?_
   obtain ⟨b7, o8, rfl⟩ := Rd.addr (St.rd 0 S2 rfl) (by omega)
   obtain ⟨x9, hx10⟩ := elm k (St.rd 0 S2 rfl) (by omega)
   refine uv (v := .pointer (some ⟨b7, o8 + k * 11, none⟩)) (fun _ _ => (y_indexAddr rfl rfl rfl (r_indexAddr k Tryd.underlying22 inf41 (by omega) (by omega)))) ?_
   refine uv (v := .agg #[.int .i64 x9.kd, .int .i64 x9.nd, .int .i64 x9.qu, .int .i64 x9.at_, .int .i64 x9.kp, .int .i64 x9.ek, .int .i64 x9.ep, .int .i64 x9.ei, .int .i64 x9.eb, .int .i64 x9.eh, .int .i64 x9.en]) (fun _ Sx12 => (y_load rfl rfl (r_load_agg (cs := Ac.cells x9) Tryd.underlying41 rfl inf41 rfl (Rd.rg2 (St.rd 0 Sx12 rfl) (fun _ _ h => fm_get (enc := Ac.cells) (sz := 11) (fun _ => rfl) hx10 h))))) ?_
   refine uv (v := .slice A' l.length c') (fun _ _ => ym) ?_
   refine uv (v := .int .i64 ((k : Nat) : Int)) (fun _ _ => ym) ?_
   obtain ⟨b15, o16, rfl⟩ := Rd.addr (St.rd 1 S2 rfl) (by omega)
   refine uv (v := .pointer (some ⟨b15, o16 + k * 11, none⟩)) (fun _ _ => (y_indexAddr rfl rfl rfl (r_indexAddr k Tryd.underlying22 inf41 (by omega) (by omega)))) ?_
   refine uv (v := .agg #[.int .i64 x9.kd, .int .i64 x9.nd, .int .i64 x9.qu, .int .i64 x9.at_, .int .i64 x9.kp, .int .i64 x9.ek, .int .i64 x9.ep, .int .i64 x9.ei, .int .i64 x9.eb, .int .i64 x9.eh, .int .i64 x9.en]) (fun _ Sx18 => (y_load rfl rfl (r_load_agg (cs := Ac.cells x9) Tryd.underlying41 rfl inf41 rfl (Rd.rg2 (St.rd 1 Sx18 rfl) (fun _ _ h => fm_get (enc := Ac.cells) (sz := 11) (fun _ => rfl) hx10 h))))) ?_
   refine uv (v := .bool false) (fun _ _ => (y_binop rfl rfl rfl (r_eqg (by kernel_rfl) (ac_ne2 x9  _)))) ?_
   refine wU_nil fun w20 S21 => ?_; clear S2
   refine pk [0, 1, 4, 5, 25] ?_
   refine wQ_then (wC_cond_f rfl (wC_skip (wQ_blk_n (wQ_then (wC_region (vm ?_))))))
   refine vv (v := .int .i64 ((k + 1 : Nat) : Int)) (y_binop rfl rfl rfl (r_add (by omega) (by omega))) ?_
   refine va ?_
   refine qk [0, 1, 4, 5] ?_
   refine wQ_round (k + 1) ?_ ⟨rfl, rfl, rfl, rfl, trivial⟩ (by first | omega | (dsimp only; omega))
   exact ⟨(by omega), S21⟩
  ·refine vv (ylssF h4) ?_
   refine qk [0, 1, 4, 5, 14] ?_
   refine wQ_then (wC_cond_f rfl (wC_exit (wQ_then_exit (wQ_then_exit (wQ_blk_same (wQ_then (wC_seq (wC_region (va ?_)))))))))
   refine qk [4] ?_
   refine x_te (pt ?_)
   exact ⟨rfl, S2.low⟩

set_option maxRecDepth 100000 in
instance : IntRec Ac where
  size := 11
  ints x := x.ints
  of l := ⟨l.getD 0 0, l.getD 1 0, l.getD 2 0, l.getD 3 0, l.getD 4 0, l.getD 5 0, l.getD 6 0, l.getD 7 0, l.getD 8 0, l.getD 9 0, l.getD 10 0⟩
  pos := by omega
  len _ := rfl
  inv xs h := by
    obtain ⟨a1, xs, rfl⟩ := List.exists_cons_of_length_eq_add_one h
    obtain ⟨a2, xs, rfl⟩ := List.exists_cons_of_length_eq_add_one (Nat.succ.inj h)
    have h := Nat.succ.inj (Nat.succ.inj h)
    obtain ⟨a3, xs, rfl⟩ := List.exists_cons_of_length_eq_add_one h
    obtain ⟨a4, xs, rfl⟩ := List.exists_cons_of_length_eq_add_one (Nat.succ.inj h)
    have h := Nat.succ.inj (Nat.succ.inj h)
    obtain ⟨a5, xs, rfl⟩ := List.exists_cons_of_length_eq_add_one h
    obtain ⟨a6, xs, rfl⟩ := List.exists_cons_of_length_eq_add_one (Nat.succ.inj h)
    have h := Nat.succ.inj (Nat.succ.inj h)
    obtain ⟨a7, xs, rfl⟩ := List.exists_cons_of_length_eq_add_one h
    obtain ⟨a8, xs, rfl⟩ := List.exists_cons_of_length_eq_add_one (Nat.succ.inj h)
    have h := Nat.succ.inj (Nat.succ.inj h)
    obtain ⟨a9, xs, rfl⟩ := List.exists_cons_of_length_eq_add_one h
    obtain ⟨a10, xs, rfl⟩ := List.exists_cons_of_length_eq_add_one (Nat.succ.inj h)
    have h := Nat.succ.inj (Nat.succ.inj h)
    obtain ⟨a11, xs, rfl⟩ := List.exists_cons_of_length_eq_add_one h
    obtain rfl := List.eq_nil_of_length_eq_zero (Nat.succ.inj h)
    rfl
end Go.Proofs.YtkjlafpafmihaaaDoor

