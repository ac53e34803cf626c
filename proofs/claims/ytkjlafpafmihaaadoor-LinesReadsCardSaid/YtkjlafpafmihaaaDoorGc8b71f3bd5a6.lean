/- Parts of proofs: lemmas on memory, on single functions and on the plain models; no condition of their own. -/
import Derived.Test.YtkjlafpafmihaaaDoorRows
import Derived.WalkKit
import Derived.ProofKit
import Derived.OpenShut
import Derived.SizedLaws
import Derived.WalkSpells
import Derived.WalkLawsBesides
import Derived.Handy
import Derived.Deep.QuietTactic
import Derived.BigQuiet
import Derived.Lib.Hide
import Derived.Maps.AppendAt
import Derived.Deep.AppendLies
import Derived.RegionTactic
import Derived.OwnWalk
import Derived.Laws.Tables
import Derived.Deep.MidRow
import Derived.StillTailTactics
import Derived.OrdersHeld
import Derived.Deep.RegionHeld3
import Derived.Laws.IdiomCopy
import Derived.ChangeKeysEq
import Derived.Laws.BitsAllLaws
import Derived.Scope
import Derived.Lib.AppendStr
import Derived.Lib.ItoaLen
import Derived.Lib.BufferRead
import Derived.Laws.IdiomStrings
import Derived.Lib.Builder
import Derived.Shelf.Strings.Builder1
import Derived.Shelf.LaysM
import Derived.Shelf.Strconv.Itoa3
import Derived.Lib.ItoaMem
import Derived.Lib.AppendIntMem
import Derived.Lib.QuietBelow
import Derived.Shelf.Strings.Search1
import Derived.Shelf.Small.Strs
import Derived.Shelf.Strings.Prefix
import Derived.Shelf.Strings.SplitShaped
import Derived.Shelf.Strconv.AtoiAll
import Derived.Shelf.LaysC
import Derived.Lib.SplitLaws
import Derived.Lib.AtoiAllCases
import Derived.Lib.IndexLaws
import Derived.Laws.Strings2
import Derived.Laws.Strings3
import Derived.Laws.Slices
import Derived.Test.YtkjlafpafmihaaaDoorG0e6854d461dd
import Derived.Test.YtkjlafpafmihaaaDoorG173045c9580a
import Derived.Test.YtkjlafpafmihaaaDoorG3606cc3ac865
import Derived.Test.YtkjlafpafmihaaaDoorG56c47c18b150
import Derived.Test.YtkjlafpafmihaaaDoorG8853775e7979
import Derived.Test.YtkjlafpafmihaaaDoorG8c37540fe402
import Derived.Test.YtkjlafpafmihaaaDoorGa487125d06f9
import Derived.Test.YtkjlafpafmihaaaDoorGa57fdb9d3cfe
import Derived.Test.YtkjlafpafmihaaaDoorGa6cfea583cdc
import Derived.Test.YtkjlafpafmihaaaDoorGab8ecdf11465
import Derived.Test.YtkjlafpafmihaaaDoorGd3cfdc1357eb
import Derived.Test.YtkjlafpafmihaaaDoorGea90f12dfe92
import Derived.Test.YtkjlafpafmihaaaDoorGedcf6e6df767
import Derived.Test.YtkjlafpafmihaaaDoorGfb0ccb768d7d
import Derived.Test.YtkjlafpafmihaaaDoorGfe753c0b6274
set_option linter.unusedVariables false
set_option linter.unusedSimpArgs false

namespace Go.Proofs.YtkjlafpafmihaaaDoor
open Go.ChangeShapes Go.WideShapes Go.RowKit

theorem whole_n0 {s : List UInt8} (h : ((s.length : Nat) : Int) = 0) : wholeM s = -1 := if_pos (.inl (by omega))
theorem whole_n1 {s : List UInt8} (h : (10 : Int) < ((s.length : Nat) : Int)) : wholeM s = -1 := if_pos (.inr (.inl (by omega)))
theorem u8_48 {c : UInt8} (h : ((c.toNat : Nat) : Int) = 48) : c = 48 := UInt8.toNat_inj.1 (by show c.toNat = 48; omega)
theorem u8_32 {c : UInt8} (h : ((c.toNat : Nat) : Int) = 32) : c = 32 := UInt8.toNat_inj.1 (by show c.toNat = 32; omega)
theorem u8_10 {c : UInt8} (h : ((c.toNat : Nat) : Int) = 10) : c = 10 := UInt8.toNat_inj.1 (by show c.toNat = 10; omega)
theorem whole_n2 {s : List UInt8} {c : UInt8} (hc : s[0]? = some c) (h : ((c.toNat : Nat) : Int) = 48) (h1 : (1 : Int) < ((s.length : Nat) : Int)) : wholeM s = -1 :=
  if_pos (.inr (.inr ⟨by rw [List.head?_eq_getElem?, hc, u8_48 h], by omega⟩))
theorem whole_y1 {s : List UInt8} {c : UInt8} (h0 : ¬ ((s.length : Nat) : Int) = 0) (h1 : ¬ (10 : Int) < ((s.length : Nat) : Int)) (hc : s[0]? = some c) (h : ¬ ((c.toNat : Nat) : Int) = 48) : wholeM s = wgo 0 (s.drop 0) := by
  refine if_neg ?_
  rintro (h2 | h2 | ⟨h2, h3⟩)
  · omega
  · omega
  · rw [List.head?_eq_getElem?, hc] at h2
    cases h2
    exact h rfl
theorem whole_y2 {s : List UInt8} (h0 : ¬ ((s.length : Nat) : Int) = 0) (h1 : ¬ (10 : Int) < ((s.length : Nat) : Int)) (h : ¬ (1 : Int) < ((s.length : Nat) : Int)) : wholeM s = wgo 0 (s.drop 0) := by
  refine if_neg ?_
  rintro (h2 | h2 | ⟨h2, h3⟩) <;> omega
theorem drop_conU {s : List UInt8} {i : Nat} {c : UInt8} (h : s[i]? = some c) : s.drop i = c :: s.drop (i + 1) := by
  obtain ⟨hk, rfl⟩ := List.getElem?_eq_some_iff.1 h
  exact List.drop_eq_getElem_cons hk
theorem wgo_bad {s : List UInt8} {i : Nat} {c : UInt8} {n : Int} (hc : s[i]? = some c) (h : ((c.toNat : Nat) : Int) < 48 ∨ 57 < ((c.toNat : Nat) : Int)) : wgo n (s.drop i) = -1 := by rw [drop_conU hc, wgo, if_pos h]
theorem wgo_next {s : List UInt8} {i : Nat} {c : UInt8} {n : Int} (hc : s[i]? = some c) (h1 : ¬ ((c.toNat : Nat) : Int) < 48) (h2 : ¬ (57 : Int) < ((c.toNat : Nat) : Int)) : wgo n (s.drop i) = wgo (10 * n + (((c.toNat : Nat) : Int) - 48)) (s.drop (i + 1)) := by
  rw [drop_conU hc, wgo, if_neg (by omega)]
theorem wgo_end {s : List UInt8} {i : Nat} {n : Int} (h : ¬ ((i : Nat) : Int) < ((s.length : Nat) : Int)) : wgo n (s.drop i) = n := by rw [List.drop_of_length_le (by omega), wgo]
theorem pow_step {n d : Int} {i : Nat} (h : n < (10 : Int) ^ i) (hd : d ≤ 9) : 10 * n + d < (10 : Int) ^ (i + 1) := by rw [Int.pow_succ]; omega
theorem pow_bd {n : Int} {i : Nat} (h : n < (10 : Int) ^ i) (hi : i ≤ 10) : n < 10000000000 := by
  have h1 : (10 : Int) ^ i ≤ (10 : Int) ^ 10 := by
    have h3 := Nat.pow_le_pow_right (n := 10) (by decide) hi
    exact_mod_cast h3
  have h2 : (10 : Int) ^ 10 = 10000000000 := by decide
  omega

set_option maxRecDepth 100000 in
set_option maxHeartbeats 4000000 in
theorem whole_calls (s : List UInt8) (w : World) :
    Calls Tryd.prog 35 #[str s] w (IntPost w (wholeM s)) := by
 have S := St.start w
 refine fnw 48 Tryd.func35 ?_
 refine cw [0] ?_
 refine x_sr (va ?_)
 refine wL_nil (wQ_then (wC_seq (wC_seq (wC_region (vm ?_)))))
 refine vv (v := .int .i64 ((s.length : Nat) : Int)) (y_builtin (vs := [str s]) rfl ⟨rfl, trivial⟩ fun _ => r_slen rfl Tryd.underlying9) ?_
 by_cases h1 : ((s.length : Nat) : Int) = 0
 ·refine vv (yeqlT h1) ?_
  refine vm ?_
  iterate 3 refine vs ?_
  refine vv ypT ?_
  refine vm ?_
  iterate 8 refine vs ?_
  refine vv ypT ?_
  refine qk [0, 2, 22] ?_
  refine x_tysr (va ?_)
  refine qk [2] ?_
  refine x_teh (pt ?_)
  rw [whole_n0 (by omega)]
  exact ⟨rfl, S.low⟩
 ·refine vv (yeqlF h1) ?_
  refine vm ?_
  refine vg ym ?_
  refine vg (v := .int .i64 ((s.length : Nat) : Int)) (y_builtin (vs := [str s]) rfl ⟨rfl, trivial⟩ fun _ => r_slen rfl Tryd.underlying9) ?_
  by_cases h2 : 10 < ((s.length : Nat) : Int)
  ·refine vg (ygtrT h2) ?_
   refine vv ypF ?_
   refine vm ?_
   iterate 8 refine vs ?_
   refine vv ypT ?_
   refine qk [0, 2, 22] ?_
   refine x_tysr (va ?_)
   refine qk [2] ?_
   refine x_teh (pt ?_)
   rw [whole_n1 (by omega)]
   exact ⟨rfl, S.low⟩
  ·refine vg (ygtrF h2) ?_
   refine vv ypF ?_
   refine vm ?_
   refine vg ym ?_
   obtain ⟨x3, hx4⟩ : ∃ c, (s)[0]? = some c := ⟨_, List.getElem?_eq_getElem (by omega)⟩
   refine vg (v := .int .u8 ((x3.toNat : Nat) : Int)) (y_index (q := .int .i64 ((0 : Nat) : Int)) rfl rfl rfl (r_sidx Tryd.underlying9 hx4)) ?_
   by_cases h5 : ((x3.toNat : Nat) : Int) = 48
   ·refine vg (yeqlT h5) ?_
    refine vg ym ?_
    refine vg ym ?_
    refine vg (v := .int .i64 ((s.length : Nat) : Int)) (y_builtin (vs := [str s]) rfl ⟨rfl, trivial⟩ fun _ => r_slen rfl Tryd.underlying9) ?_
    by_cases h6 : 1 < ((s.length : Nat) : Int)
    ·refine vg (ygtrT h6) ?_
     refine vg ypT ?_
     refine vv ypF ?_
     refine qk [0, 2, 22] ?_
     refine x_tysr (va ?_)
     refine qk [2] ?_
     refine x_teh (pt ?_)
     rw [whole_n2 hx4 (by omega) (by omega)]
     exact ⟨rfl, S.low⟩
    ·refine vg (ygtrF h6) ?_
     refine vg ypT ?_
     refine vv ypF ?_
     refine qk [0, 2, 22] ?_
     refine x_tnktsr (va ?_)
     refine qk [0, 2, 3] ?_
     refine x_tssr (va ?_)
     refine wL_nil (wQ_then (wC_block (wC_loop (X := Int × Nat) (fun xv => [(0, str s), (3, .int .i64 xv.1), (4, .int .i64 ((xv.2 : Nat) : Int)), (2, .int .i64 0)]) (fun xv wr => (xv.2 ≤ s.length) ∧ (wholeM s = wgo xv.1 (s.drop xv.2)) ∧ (0 ≤ xv.1) ∧ (xv.1 < (10 : Int) ^ xv.2) ∧ St w.heap.size w wr []) (fun xv => s.length - xv.2) (0, 0) ?_ ?_ ?_)))
     ·exact ⟨Nat.zero_le _, whole_y2 h1 h2 h6, Int.le_refl _, by decide, S⟩
     ·exact ⟨rfl, rfl, rfl, rfl, trivial⟩
     ·rintro ⟨n, i⟩ w7 ⟨hi9, hi10, hi11, hi12, S8⟩
      try dsimp only at hi9 hi10 hi11 hi12 S8; clear S
      refine wC_sub (l' := [(0, str s), (3, .int .i64 n), (4, .int .i64 ((i : Nat) : Int)), (2, .int .i64 0)]) ⟨rfl, rfl, rfl, rfl, trivial⟩ (wC_seq (wC_seq (wC_region (vm ?_))))
      refine vm ?_
      refine vv (v := .int .i64 ((s.length : Nat) : Int)) (y_builtin (vs := [str s]) rfl ⟨rfl, trivial⟩ fun _ => r_slen rfl Tryd.underlying9) ?_
      by_cases h13 : ((i : Nat) : Int) < ((s.length : Nat) : Int)
      ·refine vv (ylssT h13) ?_
       refine qk [0, 3, 4, 2, 26] ?_
       refine wQ_then (wC_cond_t rfl (wC_skip (wQ_then (wC_seq (wC_block (wC_seq (wC_seq (wC_region (vm ?_)))))))))
       refine vm ?_
       obtain ⟨x14, hx15⟩ : ∃ c, (s)[i]? = some c := ⟨_, List.getElem?_eq_getElem (by omega)⟩
       refine vv (v := .int .u8 ((x14.toNat : Nat) : Int)) (y_index (q := .int .i64 ((i : Nat) : Int)) rfl rfl rfl (r_sidx Tryd.underlying9 hx15)) ?_
       by_cases h16 : ((x14.toNat : Nat) : Int) < 48
       ·refine vv (ylssT h16) ?_
        refine vm ?_
        iterate 4 refine vs ?_
        refine vv ypT ?_
        refine qk [0, 3, 4, 2, 38] ?_
        refine x_tysr (va ?_)
        refine qk [2] ?_
        refine wQ_then (wC_ret (wQ_then_ret (wQ_blk_ret (wQ_then_ret (wQ_then_ret (wQ_blk_ret (wQ_then_ret (pt ?_))))))))
        rw [hi10, wgo_bad hx15 (by omega)]
        exact ⟨rfl, S8.low⟩
       ·refine vv (ylssF h16) ?_
        refine vm ?_
        refine vg ym ?_
        refine vg ym ?_
        refine vg (v := .int .u8 ((x14.toNat : Nat) : Int)) (y_index (q := .int .i64 ((i : Nat) : Int)) rfl rfl rfl (r_sidx Tryd.underlying9 hx15)) ?_
        by_cases h17 : 57 < ((x14.toNat : Nat) : Int)
        ·refine vg (ygtrT h17) ?_
         refine vv ypF ?_
         refine qk [0, 3, 4, 2, 38] ?_
         refine x_tysr (va ?_)
         refine qk [2] ?_
         refine wQ_then (wC_ret (wQ_then_ret (wQ_blk_ret (wQ_then_ret (wQ_then_ret (wQ_blk_ret (wQ_then_ret (pt ?_))))))))
         rw [hi10, wgo_bad hx15 (by omega)]
         exact ⟨rfl, S8.low⟩
        ·refine vg (ygtrF h17) ?_
         refine vv ypF ?_
         refine qk [0, 3, 4, 2, 38] ?_
         refine wQ_then (wC_cond_f rfl (wC_skip (wQ_then ?_)))
         have hbd := pow_bd hi12 (by omega)
         refine wC_region (vm ?_)
         refine vv (v := .int .i64 (10 * n)) (y_binop rfl rfl rfl (r_mul (by omega) (by omega))) ?_
         iterate 2 refine vm ?_
         refine vv (v := .int .u8 ((x14.toNat : Nat) : Int)) (y_index (q := .int .i64 ((i : Nat) : Int)) rfl rfl rfl (r_sidx Tryd.underlying9 hx15)) ?_
         refine vv (v := .int .u8 (((x14.toNat : Nat) : Int) - 48)) (y_binop rfl rfl rfl (r_usub (by omega) (by omega))) ?_
         refine vv (v := .int .i64 (((x14.toNat : Nat) : Int) - 48)) (y_convert rfl rfl (r_u2i (by rw [Tryd.underlying5]; rfl) Tryd.underlying3 (by omega) (by omega))) ?_
         refine vv (v := .int .i64 ((10 * n) + (((x14.toNat : Nat) : Int) - 48))) (y_binop rfl rfl rfl (r_add (by omega) (by omega))) ?_
         refine va ?_
         refine qk [0, 3, 4, 2] ?_
         refine wQ_blk_n (wQ_then (wC_region (vm ?_)))
         refine vv (v := .int .i64 ((i + 1 : Nat) : Int)) (y_binop rfl rfl rfl (r_add (by omega) (by omega))) ?_
         refine va ?_
         refine qk [0, 3, 4, 2] ?_
         refine wQ_round (10 * n + (((x14.toNat : Nat) : Int) - 48), i + 1) ?_ ⟨rfl, rfl, rfl, rfl, trivial⟩ (by first | omega | (dsimp only; omega))
         exact ⟨(by dsimp only; omega), (by dsimp only; rw [hi10]; exact wgo_next hx15 h16 h17), (by dsimp only; omega), (pow_step hi12 (by omega)), S8⟩
      ·refine vv (ylssF h13) ?_
       refine qk [0, 3, 4, 2, 26] ?_
       refine wQ_then (wC_cond_f rfl (wC_exit (wQ_then_exit (wQ_then_exit (wQ_blk_same (wQ_then (wC_seq (wC_region (vm ?_)))))))))
       refine va ?_
       refine qk [2] ?_
       refine x_te (pt ?_)
       rw [hi10, wgo_end (by omega)]
       exact ⟨rfl, S8.low⟩
   ·refine vg (yeqlF h5) ?_
    refine vg ym ?_
    iterate 3 refine vs ?_
    refine vg ypF ?_
    refine vv ypF ?_
    refine qk [0, 2, 22] ?_
    refine x_tnktsr (va ?_)
    refine qk [0, 2, 3] ?_
    refine x_tssr (va ?_)
    refine wL_nil (wQ_then (wC_block (wC_loop (X := Int × Nat) (fun xv => [(0, str s), (3, .int .i64 xv.1), (4, .int .i64 ((xv.2 : Nat) : Int)), (2, .int .i64 0)]) (fun xv wr => (xv.2 ≤ s.length) ∧ (wholeM s = wgo xv.1 (s.drop xv.2)) ∧ (0 ≤ xv.1) ∧ (xv.1 < (10 : Int) ^ xv.2) ∧ St w.heap.size w wr []) (fun xv => s.length - xv.2) (0, 0) ?_ ?_ ?_)))
    ·exact ⟨Nat.zero_le _, whole_y1 h1 h2 hx4 h5, Int.le_refl _, by decide, S⟩
    ·exact ⟨rfl, rfl, rfl, rfl, trivial⟩
    ·rintro ⟨n, i⟩ w18 ⟨hi20, hi21, hi22, hi23, S19⟩
     try dsimp only at hi20 hi21 hi22 hi23 S19; clear S
     refine wC_sub (l' := [(0, str s), (3, .int .i64 n), (4, .int .i64 ((i : Nat) : Int)), (2, .int .i64 0)]) ⟨rfl, rfl, rfl, rfl, trivial⟩ (wC_seq (wC_seq (wC_region (vm ?_))))
     refine vm ?_
     refine vv (v := .int .i64 ((s.length : Nat) : Int)) (y_builtin (vs := [str s]) rfl ⟨rfl, trivial⟩ fun _ => r_slen rfl Tryd.underlying9) ?_
     by_cases h24 : ((i : Nat) : Int) < ((s.length : Nat) : Int)
     ·refine vv (ylssT h24) ?_
      refine qk [0, 3, 4, 2, 26] ?_
      refine wQ_then (wC_cond_t rfl (wC_skip (wQ_then (wC_seq (wC_block (wC_seq (wC_seq (wC_region (vm ?_)))))))))
      refine vm ?_
      obtain ⟨x25, hx26⟩ : ∃ c, (s)[i]? = some c := ⟨_, List.getElem?_eq_getElem (by omega)⟩
      refine vv (v := .int .u8 ((x25.toNat : Nat) : Int)) (y_index (q := .int .i64 ((i : Nat) : Int)) rfl rfl rfl (r_sidx Tryd.underlying9 hx26)) ?_
      by_cases h27 : ((x25.toNat : Nat) : Int) < 48
      ·refine vv (ylssT h27) ?_
       refine vm ?_
       iterate 4 refine vs ?_
       refine vv ypT ?_
       refine qk [0, 3, 4, 2, 38] ?_
       refine x_tysr (va ?_)
       refine qk [2] ?_
       refine wQ_then (wC_ret (wQ_then_ret (wQ_blk_ret (wQ_then_ret (wQ_then_ret (wQ_blk_ret (wQ_then_ret (pt ?_))))))))
       rw [hi21, wgo_bad hx26 (by omega)]
       exact ⟨rfl, S19.low⟩
      ·refine vv (ylssF h27) ?_
       refine vm ?_
       refine vg ym ?_
       refine vg ym ?_
       refine vg (v := .int .u8 ((x25.toNat : Nat) : Int)) (y_index (q := .int .i64 ((i : Nat) : Int)) rfl rfl rfl (r_sidx Tryd.underlying9 hx26)) ?_
       by_cases h28 : 57 < ((x25.toNat : Nat) : Int)
       ·refine vg (ygtrT h28) ?_
        refine vv ypF ?_
        refine qk [0, 3, 4, 2, 38] ?_
        refine x_tysr (va ?_)
        refine qk [2] ?_
        refine wQ_then (wC_ret (wQ_then_ret (wQ_blk_ret (wQ_then_ret (wQ_then_ret (wQ_blk_ret (wQ_then_ret (pt ?_))))))))
        rw [hi21, wgo_bad hx26 (by omega)]
        exact ⟨rfl, S19.low⟩
       ·refine vg (ygtrF h28) ?_
        refine vv ypF ?_
        refine qk [0, 3, 4, 2, 38] ?_
        refine wQ_then (wC_cond_f rfl (wC_skip (wQ_then ?_)))
        have hbd := pow_bd hi23 (by omega)
        refine wC_region (vm ?_)
        refine vv (v := .int .i64 (10 * n)) (y_binop rfl rfl rfl (r_mul (by omega) (by omega))) ?_
        iterate 2 refine vm ?_
        refine vv (v := .int .u8 ((x25.toNat : Nat) : Int)) (y_index (q := .int .i64 ((i : Nat) : Int)) rfl rfl rfl (r_sidx Tryd.underlying9 hx26)) ?_
        refine vv (v := .int .u8 (((x25.toNat : Nat) : Int) - 48)) (y_binop rfl rfl rfl (r_usub (by omega) (by omega))) ?_
        refine vv (v := .int .i64 (((x25.toNat : Nat) : Int) - 48)) (y_convert rfl rfl (r_u2i (by rw [Tryd.underlying5]; rfl) Tryd.underlying3 (by omega) (by omega))) ?_
        refine vv (v := .int .i64 ((10 * n) + (((x25.toNat : Nat) : Int) - 48))) (y_binop rfl rfl rfl (r_add (by omega) (by omega))) ?_
        refine va ?_
        refine qk [0, 3, 4, 2] ?_
        refine wQ_blk_n (wQ_then (wC_region (vm ?_)))
        refine vv (v := .int .i64 ((i + 1 : Nat) : Int)) (y_binop rfl rfl rfl (r_add (by omega) (by omega))) ?_
        refine va ?_
        refine qk [0, 3, 4, 2] ?_
        refine wQ_round (10 * n + (((x25.toNat : Nat) : Int) - 48), i + 1) ?_ ⟨rfl, rfl, rfl, rfl, trivial⟩ (by first | omega | (dsimp only; omega))
        exact ⟨(by dsimp only; omega), (by dsimp only; rw [hi21]; exact wgo_next hx26 h27 h28), (by dsimp only; omega), (pow_step hi23 (by omega)), S19⟩
     ·refine vv (ylssF h24) ?_
      refine qk [0, 3, 4, 2, 26] ?_
      refine wQ_then (wC_cond_f rfl (wC_exit (wQ_then_exit (wQ_then_exit (wQ_blk_same (wQ_then (wC_seq (wC_region (vm ?_)))))))))
      refine va ?_
      refine qk [2] ?_
      refine x_te (pt ?_)
      rw [hi21, wgo_end (by omega)]
      exact ⟨rfl, S19.low⟩

def barU : Nat → List (Int × Int)
  | 0 => []
  | k + 1 => if k + 1 = 2 then barU k else barU k ++ [((k : Int) + 1, 0)]
theorem barU_two (k : Nat) (h : ((k + 1 : Nat) : Int) = 2) : barU (k + 1) = barU k := by rw [barU, if_pos (by omega)]
theorem barU_ne (k : Nat) (h : ¬ ((k + 1 : Nat) : Int) = 2) : barU (k + 1) = barU k ++ [(((k + 1 : Nat) : Int), 0)] := by rw [barU, if_neg (by omega)]; rfl
def barE : Nat → List (Int × Int)
  | 0 => []
  | k + 1 => barE k ++ [(2, ((k + 1 : Nat) : Int))]
theorem barU_len : ∀ k, (barU k).length ≤ k
  | 0 => Nat.le_refl _
  | k + 1 => by
    have := barU_len k
    unfold barU
    split
    · omega
    · rw [List.length_append, List.length_singleton]; omega
theorem bar_all : barU 10 ++ barE 3 = bareL := by kernel_rfl
def barC (p : Int × Int) : List Value := (bareA p).cells
def BarPost (w : World) (e : Ending) (w' : World) : Prop := ∃ A c, e = .returned (.slice A 12 c) ∧ St w.heap.size w w' [.rdo 11 A 12 (bareL.flatMap barC)]

set_option maxRecDepth 100000 in
set_option maxHeartbeats 4000000 in
theorem bares_calls (w : World) :
    Calls Tryd.prog 34 #[] w (BarPost w) := by
 have S := St.start w
 refine fnw 26 Tryd.func34 ?_
 refine wC_sub (l' := []) trivial (wC_seq (wC_region (va ?_)))
 refine wL_nil (wQ_then (wC_seq (wC_region (va ?_))))
 refine wL_nil (wQ_then (wC_seq (wC_seq (wC_region (va ?_)))))
 refine wL_nil (wQ_then (wC_block ?_))
 have S1 := S.nil 41 11; clear S
 change St _ _ _ [.own 41 11 (.slice none 0 0) 0 (([]).flatMap barC)] at S1
 refine wC_loop (X := Nat × Nat × (Option Addr) × Nat) (fun xv => [(0, .slice none 0 0), (1, .slice xv.2.2.1 xv.2.1 xv.2.2.2), (2, .int .i64 ((xv.1 + 1 : Nat) : Int))]) (fun xv wr => (xv.1 ≤ 10) ∧ (xv.2.1 = (barU xv.1).length) ∧ St w.heap.size w wr [.own 41 11 (.slice xv.2.2.1 xv.2.1 xv.2.2.2) xv.2.1 ((barU xv.1).flatMap barC)]) (fun xv => 10 - xv.1) (0, 0, none, 0) ?_ ?_ ?_
 ·exact ⟨Nat.zero_le _, rfl, S1⟩
 ·exact ⟨rfl, rfl, rfl, trivial⟩
 ·rintro ⟨k, n, A3, c3⟩ w2 ⟨hi4, hi5, S3⟩
  try dsimp only at hi4 hi5 S3; clear S1
  refine wC_sub (l' := [(0, .slice none 0 0), (1, .slice A3 n c3), (2, .int .i64 ((k + 1 : Nat) : Int))]) ⟨rfl, rfl, rfl, trivial⟩ ?_
  have hbl := barU_len k
  refine wC_seq (wC_seq (wC_region (vm ?_)))
  by_cases h6 : ((k + 1 : Nat) : Int) ≤ 10
  ·refine vv (yleqT h6) ?_
   refine qk [0, 1, 2, 5] ?_
   refine wQ_then (wC_cond_t rfl (wC_skip (wQ_then (wC_seq (wC_block (wC_seq (wC_region (vm ?_))))))))
   by_cases h7 : ((k + 1 : Nat) : Int) = 2
   ·refine vv (yneqF h7) ?_
    refine qk [0, 1, 2, 9] ?_
    refine wQ_then (wC_cond_f rfl (wC_skip (wQ_blk_n (wQ_then (wC_region (vm ?_))))))
    refine vv (v := .int .i64 (((k + 1) + 1 : Nat) : Int)) (y_binop rfl rfl rfl (r_add (by omega) (by omega))) ?_
    refine va ?_
    refine qk [0, 1, 2] ?_
    have hb := barU_two k h7
    rw [← hb] at S3
    refine wQ_round (k + 1, n, A3, c3) ?_ ⟨rfl, rfl, rfl, trivial⟩ (by first | omega | (dsimp only; omega))
    exact ⟨(by dsimp only; omega), (by dsimp only; rw [hb]; omega), S3⟩
   ·refine vv (yneqT h7) ?_
    refine qk [0, 1, 2, 9] ?_
    refine wQ_then (wC_cond_t rfl (wC_region (vm ?_)))
    refine vm ?_
    refine vv (v := .agg #[.int .i64 ((k + 1 : Nat) : Int), .int .i64 0, .int .i64 0, .int .i64 0, .int .i64 0, .int .i64 0, .int .i64 0, .int .i64 0, .int .i64 0, .int .i64 0, .int .i64 0]) (y_build (vs := [(0, .int .i64 ((k + 1 : Nat) : Int))]) rfl ⟨rfl, rfl, trivial⟩ (by kernel_rfl)) ?_
    refine wL_new (V := fun b => .slice (some ⟨b, 0, none⟩) 1 1) (row := #[.int .i64 ((k + 1 : Nat) : Int), .int .i64 0, .int .i64 0, .int .i64 0, .int .i64 0, .int .i64 0, .int .i64 0, .int .i64 0, .int .i64 0, .int .i64 0, .int .i64 0]) (t := 41) S3 (wn rfl) rfl rfl (d_buildSlice (vs := [(0, .agg #[.int .i64 ((k + 1 : Nat) : Int), .int .i64 0, .int .i64 0, .int .i64 0, .int .i64 0, .int .i64 0, .int .i64 0, .int .i64 0, .int .i64 0, .int .i64 0, .int .i64 0])]) rfl ⟨rfl, rfl, trivial⟩ (by kernel_rfl)) ?_; intro b8 w9 S10; clear S3
    refine wL_append (news := [.int .i64 ((k + 1 : Nat) : Int), .int .i64 0, .int .i64 0, .int .i64 0, .int .i64 0, .int .i64 0, .int .i64 0, .int .i64 0, .int .i64 0, .int .i64 0, .int .i64 0]) (xs' := (barU (k + 1)).flatMap barC) 1 S10 (wn rfl) rfl rfl rfl rfl rfl rfl (St.bld (xs := [.int .i64 ((k + 1 : Nat) : Int), .int .i64 0, .int .i64 0, .int .i64 0, .int .i64 0, .int .i64 0, .int .i64 0, .int .i64 0, .int .i64 0, .int .i64 0, .int .i64 0]) 0 S10 rfl rfl rfl) Tryd.underlying22 infz41 rfl (by decide) (oneAll rfl) (by simp only [maxLen]; omega) (by omega) (by rw [barU_ne k h7]; simp [barC, bareA, Ac.cells]) ?_; intro A11 c12 w13 hc15 hm16 S14; clear S10
    change St _ _ _ [_, .own 41 11 (.slice A11 (n + 1) c12) (n + 1) ((barU (k + 1)).flatMap barC)] at S14
    refine va ?_
    refine qk [0, 1, 2] ?_
    refine wQ_blk_n (wQ_then (wC_region (vm ?_)))
    refine vv (v := .int .i64 (((k + 1) + 1 : Nat) : Int)) (y_binop rfl rfl rfl (r_add (by omega) (by omega))) ?_
    refine va ?_
    refine qk [0, 1, 2] ?_
    have S17 : St _ _ _ [_] := S14.dels [0]; clear S14
    have hb := barU_ne k h7
    refine wQ_round (k + 1, n + 1, A11, c12) ?_ ⟨rfl, rfl, rfl, trivial⟩ (by first | omega | (dsimp only; omega))
    exact ⟨(by dsimp only; omega), (by dsimp only; rw [hb, List.length_append, List.length_singleton]; omega), S17⟩
  ·refine vv (yleqF h6) ?_
   refine qk [0, 1, 2, 5] ?_
   refine wQ_then (wC_cond_f rfl (wC_exit (wQ_then_exit (wQ_then_exit (wQ_blk_same (wQ_then (wC_seq (wC_seq (wC_region (va ?_))))))))))
   refine qk [0, 1, 3] ?_
   refine wQ_then (wC_block ?_)
   obtain rfl : k = 10 := by omega
   have hn10 : n = 9 := hi5
   subst hn10
   refine wC_loop (X := Nat × Nat × (Option Addr) × Nat) (fun xv => [(0, .slice none 0 0), (1, .slice xv.2.2.1 xv.2.1 xv.2.2.2), (3, .int .i64 ((xv.1 + 1 : Nat) : Int))]) (fun xv wr => (xv.1 ≤ 3) ∧ (xv.2.1 = 9 + xv.1) ∧ St w.heap.size w wr [.own 41 11 (.slice xv.2.2.1 xv.2.1 xv.2.2.2) xv.2.1 ((barU 10 ++ barE xv.1).flatMap barC)]) (fun xv => 3 - xv.1) (0, 9, A3, c3) ?_ ?_ ?_
   ·exact ⟨Nat.zero_le _, rfl, by simpa [barE] using S3⟩
   ·exact ⟨rfl, rfl, rfl, trivial⟩
   ·rintro ⟨k, n, A3, c3⟩ w18 ⟨hi20, hi21, S19⟩
    try dsimp only at hi20 hi21 S19; clear S3
    refine wC_sub (l' := [(0, .slice none 0 0), (1, .slice A3 n c3), (3, .int .i64 ((k + 1 : Nat) : Int))]) ⟨rfl, rfl, rfl, trivial⟩ (wC_seq (wC_seq (wC_region (vm ?_))))
    by_cases h22 : ((k + 1 : Nat) : Int) ≤ 3
    ·refine vv (yleqT h22) ?_
     refine qk [0, 1, 3, 16] ?_
     refine wQ_then (wC_cond_t rfl (wC_skip (wQ_then (wC_seq (wC_block (wC_region (vm ?_)))))))
     refine vm ?_
     refine vv (v := .agg #[.int .i64 ((k + 1 : Nat) : Int), .int .i64 0, .int .i64 0, .int .i64 0, .int .i64 0, .int .i64 0]) (y_build (vs := [(0, .int .i64 ((k + 1 : Nat) : Int))]) rfl ⟨rfl, rfl, trivial⟩ (by kernel_rfl)) ?_
     refine vv (v := .agg #[.int .i64 2, .int .i64 0, .int .i64 0, .int .i64 0, .int .i64 0, .int .i64 ((k + 1 : Nat) : Int), .int .i64 0, .int .i64 0, .int .i64 0, .int .i64 0, .int .i64 0]) (y_build (vs := [(0, .int .i64 2), (5, .agg #[.int .i64 ((k + 1 : Nat) : Int), .int .i64 0, .int .i64 0, .int .i64 0, .int .i64 0, .int .i64 0])]) rfl ⟨rfl, rfl, rfl, rfl, trivial⟩ (by kernel_rfl)) ?_
     refine wL_new (V := fun b => .slice (some ⟨b, 0, none⟩) 1 1) (row := #[.int .i64 2, .int .i64 0, .int .i64 0, .int .i64 0, .int .i64 0, .int .i64 ((k + 1 : Nat) : Int), .int .i64 0, .int .i64 0, .int .i64 0, .int .i64 0, .int .i64 0]) (t := 41) S19 (wn rfl) rfl rfl (d_buildSlice (vs := [(0, .agg #[.int .i64 2, .int .i64 0, .int .i64 0, .int .i64 0, .int .i64 0, .int .i64 ((k + 1 : Nat) : Int), .int .i64 0, .int .i64 0, .int .i64 0, .int .i64 0, .int .i64 0])]) rfl ⟨rfl, rfl, trivial⟩ (by kernel_rfl)) ?_; intro b23 w24 S25; clear S19
     refine wL_append (news := [.int .i64 2, .int .i64 0, .int .i64 0, .int .i64 0, .int .i64 0, .int .i64 ((k + 1 : Nat) : Int), .int .i64 0, .int .i64 0, .int .i64 0, .int .i64 0, .int .i64 0]) (xs' := (barU 10 ++ barE (k + 1)).flatMap barC) 1 S25 (wn rfl) rfl rfl rfl rfl rfl rfl (St.bld (xs := [.int .i64 2, .int .i64 0, .int .i64 0, .int .i64 0, .int .i64 0, .int .i64 ((k + 1 : Nat) : Int), .int .i64 0, .int .i64 0, .int .i64 0, .int .i64 0, .int .i64 0]) 0 S25 rfl rfl rfl) Tryd.underlying22 infz41 rfl (by decide) (oneAll rfl) (by simp only [maxLen]; omega) (by omega) (by rw [barE]; simp [barC, bareA, Ac.cells]) ?_; intro A26 c27 w28 hc30 hm31 S29; clear S25
     change St _ _ _ [_, .own 41 11 (.slice A26 (n + 1) c27) (n + 1) ((barU 10 ++ barE (k + 1)).flatMap barC)] at S29
     refine va ?_
     refine qk [0, 1, 3] ?_
     refine wQ_blk_n (wQ_then (wC_region (vm ?_)))
     refine vv (v := .int .i64 (((k + 1) + 1 : Nat) : Int)) (y_binop rfl rfl rfl (r_add (by omega) (by omega))) ?_
     refine va ?_
     refine qk [0, 1, 3] ?_
     have S32 : St _ _ _ [_] := S29.dels [0]; clear S29
     refine wQ_round (k + 1, n + 1, A26, c27) ?_ ⟨rfl, rfl, rfl, trivial⟩ (by first | omega | (dsimp only; omega))
     exact ⟨(by dsimp only; omega), (by dsimp only; omega), S32⟩
    ·refine vv (yleqF h22) ?_
     refine qk [0, 1, 3, 16] ?_
     refine wQ_then (wC_cond_f rfl (wC_exit (wQ_then_exit (wQ_then_exit (wQ_blk_same (wQ_then (wC_seq (wC_region (vm ?_)))))))))
     refine va ?_
     refine qk [0] ?_
     refine x_te (pt ?_)
     obtain rfl : k = 3 := by omega
     obtain rfl : n = 12 := by omega
     rw [bar_all] at S19
     have S33 := S19.sealAll 0 rfl; clear S19
     change St _ _ _ [.rdo 11 A3 12 ((bareL).flatMap barC)] at S33
     exact ⟨_, _, rfl, S33⟩
end Go.Proofs.YtkjlafpafmihaaaDoor

namespace Go.Proofs.YtkjlafpafmihaaaDoor
open Go.ChangeShapes Go.WideShapes Go.RowKit
section
variable {B : Nat} {w0 w : World} {fs : List Fact}
theorem St.blkOwn {b n s : Nat} {row : Array Value} {t : TypeId} {xs : List Value} (i : Nat) (S : St B w0 w fs) (hi : fs[i]? = some (.blk b row t)) (hx : row.toList = xs) (hl : xs.length = n * s) (hn : n ≤ maxLen) : St B w0 w (fs.set i (.own t s (.slice (some ⟨b, 0, none⟩) n n) n xs)) := by
  subst hx
  have hz : row.size = n * s := by rw [← hl]; simp
  refine St.turn i S hi S.low (Nat.le_refl _) (fun _ _ _ => rfl) ⟨hl, .inr ⟨b, n, row, rfl, St.ge i S hi, (S.blk i hi).blk, Nat.le_refl _, hn, hz, ?_⟩⟩ (fun k hk => .inl hk)
  exact List.take_of_length_le (by rw [hl]; exact Nat.le_refl _)
theorem own_at0 {e : TypeId} {s n c : Nat} {A : Option Addr} {xs : List Value} (h : w.ownsRow B e s (.slice A n c) n xs) (hn : 0 < n) : ∃ g, A = some ⟨g, 0, none⟩ := by
  rcases h.2 with ⟨_, h0⟩ | ⟨g, cap, cur, hv, _⟩
  · omega
  · cases hv; exact ⟨g, rfl⟩
end
def strC (u : List UInt8) : List Value := [str u]
theorem infz9 : (Tryd.prog.info? 9).map (fun i => (i.zero, i.size, i.bytes)) = some (some (.string ByteArray.empty), 1, 16) := by kernel_rfl
def intC (x : Int) : List Value := [.int .i64 x]
theorem fmP {α : Type} {enc : α → List Value} {sz : Nat} (hsz : ∀ x, (enc x).length = sz) (z : α) : ∀ (k : Nat) (l : List α), k < l.length → setL (l.flatMap enc) (k * sz) (enc z) = (l.set k z).flatMap enc
  | _, [], h => absurd h (Nat.not_lt_zero _)
  | 0, x :: l, _ => by
    rw [List.flatMap_cons, Nat.zero_mul, List.set_cons_zero, List.flatMap_cons]
    have : ∀ (vs us xs : List Value), us.length = vs.length → setL (us ++ xs) 0 vs = vs ++ xs := by
      have gen : ∀ (vs us ps xs : List Value), us.length = vs.length → setL (ps ++ (us ++ xs)) ps.length vs = ps ++ (vs ++ xs) := by
        intro vs
        induction vs with
        | nil => intro us ps xs h; rw [List.length_eq_zero_iff.1 h]; rfl
        | cons v vs ih =>
          intro us ps xs h
          obtain ⟨u, us, rfl⟩ : ∃ u us', us = u :: us' := by
            cases us with
            | nil => simp at h
            | cons u us => exact ⟨u, us, rfl⟩
          rw [setL]
          have e : (ps ++ (u :: us ++ xs)).set ps.length v = (ps ++ [v]) ++ (us ++ xs) := by simp
          rw [e]
          have := ih us (ps ++ [v]) xs (by simpa using h)
          rw [List.length_append] at this
          rw [show ps.length + 1 = ps.length + [v].length from rfl, this]
          simp
      intro vs us xs h
      exact gen vs us [] xs h
    exact this _ _ _ (by rw [hsz, hsz])
  | k + 1, x :: l, h => by
    rw [List.flatMap_cons, List.set_cons_succ, List.flatMap_cons, ← fmP hsz z k l (by simpa using h)]
    have gen : ∀ (vs us xs : List Value) (j : Nat), setL (us ++ xs) (us.length + j) vs = us ++ setL xs j vs := by
      intro vs
      induction vs with
      | nil => intro us xs j; rfl
      | cons v vs ih =>
        intro us xs j
        rw [setL, setL, List.set_append_right _ _ (Nat.le_add_right _ _), Nat.add_sub_cancel_left, Nat.add_assoc, ih]
    rw [Nat.succ_mul, Nat.add_comm, ← hsz x, gen]
/-! ### A line's words, so far -/
def WInv (s : List UInt8) (ws : List (List UInt8)) (f i : Nat) : Prop := (i ≤ s.length ∧ f ≤ i ∧ wordsC [] s = ws ++ wordsC ((s.drop f).take (i - f)) (s.drop i)) ∨ (i = s.length + 1 ∧ f ≤ i ∧ wordsC [] s = ws)
section
variable {s : List UInt8} {ws : List (List UInt8)} {f i : Nat} {c : UInt8}
theorem WInv.start : WInv s [] 0 0 := .inl ⟨Nat.zero_le _, Nat.le_refl _, by simp⟩
theorem WInv.le (h : WInv s ws f i) : f ≤ i := by rcases h with h | h <;> exact h.2.1
theorem WInv.fin (h : WInv s ws f i) (hi : ¬ i ≤ s.length) : wordsC [] s = ws := by
  rcases h with h | h
  · exact absurd h.1 hi
  · exact h.2.2
theorem seg_snoc (h : s[i]? = some c) (hf : f ≤ i) : (s.drop f).take (i + 1 - f) = (s.drop f).take (i - f) ++ [c] := by
  rw [show i + 1 - f = (i - f) + 1 by omega, List.take_add_one, List.getElem?_drop, show f + (i - f) = i by omega, h]
  rfl
theorem WInv.hit (h : WInv s ws f i) (hc : s[i]? = some c) (h32 : c = 32) : WInv s (ws ++ [(s.drop f).take (i - f)]) (i + 1) (i + 1) := by
  have hi : i < s.length := (List.getElem?_eq_some_iff.1 hc).1
  rcases h with ⟨_, h2, h3⟩ | ⟨h1, _⟩
  · refine .inl ⟨by omega, Nat.le_refl _, ?_⟩
    rw [h3, drop_conU hc, wordsC, if_pos h32]
    simp
  · omega
theorem WInv.miss (h : WInv s ws f i) (hc : s[i]? = some c) (h32 : ¬ c = 32) : WInv s ws f (i + 1) := by
  have hi : i < s.length := (List.getElem?_eq_some_iff.1 hc).1
  rcases h with ⟨_, h2, h3⟩ | ⟨h1, _⟩
  · refine .inl ⟨by omega, by omega, ?_⟩
    rw [h3, drop_conU hc, wordsC, if_neg h32, seg_snoc hc h2]
  · omega
theorem WInv.last (h : WInv s ws f i) (hi : i = s.length) : WInv s (ws ++ [(s.drop f).take (i - f)]) (i + 1) (i + 1) := by
  rcases h with ⟨_, h2, h3⟩ | ⟨h1, _⟩
  · refine .inr ⟨by omega, Nat.le_refl _, ?_⟩
    rw [h3, hi, List.drop_length, wordsC]
  · omega
end
/-! ### The kinds, one by one -/
theorem find_next {l : List (Int × Int)} {u : List UInt8} {k : Nat} {p : Int × Int} (h : l[k]? = some p) (hn : ¬ wordP p = u) : (l.drop k).find? (hitB u) = (l.drop (k + 1)).find? (hitB u) := by
  obtain ⟨hk, rfl⟩ := List.getElem?_eq_some_iff.1 h
  rw [List.drop_eq_getElem_cons hk, List.find?_cons_of_neg (by simpa [hitB] using hn)]
theorem find_here {l : List (Int × Int)} {u : List UInt8} {k : Nat} {p : Int × Int} (h : l[k]? = some p) (hn : wordP p = u) : (l.drop k).find? (hitB u) = some p := by
  obtain ⟨hk, rfl⟩ := List.getElem?_eq_some_iff.1 h
  rw [List.drop_eq_getElem_cons hk, List.find?_cons_of_pos (by simpa [hitB] using hn)]
theorem bare_form {p : Int × Int} (h : p ∈ bareL) : ∃ l, formL p.1 p.2 = some l := by
  simp only [bareL, List.mem_cons, List.mem_nil_iff, or_false] at h
  rcases h with rfl | rfl | rfl | rfl | rfl | rfl | rfl | rfl | rfl | rfl | rfl | rfl <;> exact ⟨_, rfl⟩
def acZero : Ac := ⟨0, 0, 0, 0, 0, 0, 0, 0, 0, 0, 0⟩
def lineO (s : List UInt8) : Ac := (lineRef s).getD acZero
section
variable {s : List UInt8} {p : Int × Int} {l : List (Nat × Int)} {ws : List (List UInt8)}
theorem lineO_none (hw : wordsC [] s = ws) (h : bareL.find? (hitB (ws.headD [])) = none) : lineO s = acZero := by unfold lineO lineRef; rw [hw, h]; rfl
theorem lineO_len (hw : wordsC [] s = ws) (h : bareL.find? (hitB (ws.headD [])) = some p) (hf : formL p.1 p.2 = some l) (hl : ¬ ws.length = l.length + 1) : lineO s = acZero := by
  unfold lineO lineRef
  simp only [hw, h, hf]
  rw [if_pos hl]
  rfl
theorem lineO_bad (hw : wordsC [] s = ws) (h : bareL.find? (hitB (ws.headD [])) = some p) (hf : formL p.1 p.2 = some l) (hl : ws.length = l.length + 1) (h0 : ¬ actFault (mkA p l (ws.tail.map wholeM)) = 0) : lineO s = acZero := by
  unfold lineO lineRef
  simp only [hw, h, hf]
  rw [if_neg (by simpa using hl), if_neg h0]
  rfl
theorem lineO_ok (hw : wordsC [] s = ws) (h : bareL.find? (hitB (ws.headD [])) = some p) (hf : formL p.1 p.2 = some l) (hl : ws.length = l.length + 1) (h0 : actFault (mkA p l (ws.tail.map wholeM)) = 0) : lineO s = mkA p l (ws.tail.map wholeM) := by
  unfold lineO lineRef
  simp only [hw, h, hf]
  rw [if_neg (by simpa using hl), if_pos h0]
  rfl
end
/-! ### The numbers' row while it is filled -/
def rowV (vs : List Int) (m i : Nat) : List Int := vs.take i ++ List.replicate (m - i) 0
theorem rowV_set {vs : List Int} {m i : Nat} {v : Int} (h : vs[i]? = some v) (hi : i < m) : (rowV vs m i).set i v = rowV vs m (i + 1) := by
  have hl : i < vs.length := (List.getElem?_eq_some_iff.1 h).1
  unfold rowV
  rw [List.set_append_right _ _ (by rw [List.length_take]; omega), List.length_take, Nat.min_eq_left (by omega), Nat.sub_self, show m - i = (m - (i + 1)) + 1 by omega, List.replicate_succ, List.set_cons_zero, List.take_add_one, h]
  simp
theorem rowV_len {vs : List Int} {m i : Nat} (h : vs.length = m) (hi : i ≤ m) : (rowV vs m i).length = m := by
  unfold rowV
  rw [List.length_append, List.length_take, List.length_replicate]
  omega
theorem rowV_start {vs : List Int} {m : Nat} : rowV vs m 0 = List.replicate m 0 := by simp [rowV]
theorem rowV_end {vs : List Int} {m : Nat} (h : vs.length = m) : rowV vs m m = vs := by simp [rowV, ← h]
theorem bare_vals {p : Int × Int} {l : List (Nat × Int)} (hf : formL p.1 p.2 = some l) : l.flatMap (valC (bareA p)) = (List.replicate l.length (0 : Int)).flatMap intC := by
  have h := form_lt hf
  clear hf
  induction l with
  | nil => rfl
  | cons q l ih =>
    obtain ⟨h1, h2, h3⟩ := h q (List.mem_cons_self ..)
    have e : (bareA p).get q.1 = 0 := by
      obtain ⟨a, b⟩ := q
      simp only at h1 h2 h3 ⊢
      have : a = 1 ∨ a = 2 ∨ a = 3 ∨ a = 4 ∨ a = 6 ∨ a = 7 ∨ a = 8 ∨ a = 9 ∨ a = 10 := by omega
      rcases this with rfl | rfl | rfl | rfl | rfl | rfl | rfl | rfl | rfl <;> rfl
    rw [List.flatMap_cons, ih fun r hr => h r (List.mem_cons_of_mem _ hr), valC, e, List.length_cons, List.replicate_succ, List.flatMap_cons]
    rfl
theorem vals_of {x : Ac} {l : List (Nat × Int)} {vs : List Int} (h : l.map (fun q => x.get q.1) = vs) : vs.flatMap intC = l.flatMap (valC x) := by
  subst h
  induction l with
  | nil => rfl
  | cons q l ih => rw [List.map_cons, List.flatMap_cons, List.flatMap_cons, ← ih]; rfl
theorem keep_mk {p : Int × Int} {l : List (Nat × Int)} {vs : List Int} (h : formL p.1 p.2 = some l) (hv : vs.length = l.length) (hp : p ∈ bareL) : keep (mkA p l vs) = mkA p l vs := by
  have hl5 := form_len h
  simp only [bareL, List.mem_cons, List.mem_nil_iff, or_false] at hp
  rcases five vs (by omega) with rfl | ⟨a, rfl⟩ | ⟨a, b, rfl⟩ | ⟨a, b, c, rfl⟩ | ⟨a, b, c, d, rfl⟩ | ⟨a, b, c, d, e, rfl⟩
  all_goals
    rcases hp with rfl | rfl | rfl | rfl | rfl | rfl | rfl | rfl | rfl | rfl | rfl | rfl
    all_goals (simp [formL] at h; subst h; first | (simp at hv; done) | simp [mkA, putA, ofInts, bareA, Ac.ints, keep])
def NumWPost (w : World) (x : Ac) (l : List (Nat × Int)) (e : Ending) (w' : World) : Prop := ∃ A A', e = .returned (.tuple #[.slice A l.length l.length, .slice A' l.length l.length]) ∧
  St w.heap.size w w' [.own 3 1 (.slice A l.length l.length) l.length (l.flatMap (valC x))]
end Go.Proofs.YtkjlafpafmihaaaDoor

namespace Go.Proofs.YtkjlafpafmihaaaDoor
open Go.ChangeShapes Go.WideShapes Go.RowKit
def segU (t : List UInt8) (f i : Nat) : List UInt8 := (t.drop f).take (i - f)
def RInv (t : List UInt8) (L : List Ac) (f i : Nat) : Prop := (i ≤ t.length ∧ f ≤ i ∧ readC [] t [] = readC (segU t f i) (t.drop i) L) ∨ (i = t.length + 1 ∧ f ≤ i ∧ readC [] t [] = (L, 0, 0))
theorem lineO_kd {s : List UInt8} (h : (lineO s).kd = 0) : lineRef s = none := by
  cases hr : lineRef s with
  | none => rfl
  | some x =>
    exfalso
    have e : lineO s = x := by unfold lineO; rw [hr]; rfl
    rw [e] at h
    obtain ⟨l, hf⟩ := zero_some (ref_sound hr).1
    rw [h] at hf
    simp [formL] at hf
theorem lineO_some {s : List UInt8} (h : ¬ (lineO s).kd = 0) : lineRef s = some (lineO s) := by
  cases hr : lineRef s with
  | none => exact absurd (by unfold lineO; rw [hr]; rfl) h
  | some x => unfold lineO; rw [hr]; rfl
section
variable {t : List UInt8} {L : List Ac} {f i : Nat} {c : UInt8}
theorem segU_len : (segU t f i).length ≤ t.length := by unfold segU; rw [List.length_take, List.length_drop]; omega
theorem segU_nil : segU t f f = [] := by unfold segU; rw [Nat.sub_self, List.take_zero]
theorem segU_snoc (h : t[i]? = some c) (hf : f ≤ i) : segU t f (i + 1) = segU t f i ++ [c] := seg_snoc h hf
theorem segU_ne (hi : i = t.length) (hf : f ≤ i) (h : ¬ f = t.length) : segU t f i ≠ [] := fun e => by
  have := congrArg List.length e
  unfold segU at this
  rw [List.length_take, List.length_drop, List.length_nil] at this
  omega
theorem RInv.start : RInv t [] 0 0 := .inl ⟨Nat.zero_le _, Nat.le_refl _, by rw [segU_nil, List.drop_zero]⟩
theorem RInv.le (h : RInv t L f i) : f ≤ i := by rcases h with h | h <;> exact h.2.1
theorem RInv.fin (h : RInv t L f i) (hi : ¬ i ≤ t.length) : readC [] t [] = (L, 0, 0) := by
  rcases h with h | h
  · exact absurd h.1 hi
  · exact h.2.2
theorem RInv.at (h : RInv t L f i) (hi : i ≤ t.length) : f ≤ i ∧ readC [] t [] = readC (segU t f i) (t.drop i) L := by
  rcases h with h | h
  · exact h.2
  · omega
theorem RInv.skip (h : RInv t L f i) (hc : t[i]? = some c) (hn : ¬ c = 10) : RInv t L f (i + 1) := by
  have hi : i < t.length := (List.getElem?_eq_some_iff.1 hc).1
  obtain ⟨h1, h2⟩ := h.at (by omega)
  refine .inl ⟨by omega, by omega, ?_⟩
  rw [h2, drop_conU hc, readC, if_neg hn, segU_snoc hc h1]
theorem RInv.done (h : RInv t L f i) (hi : i = t.length) (hf : f = t.length) : RInv t L f (i + 1) := by
  obtain ⟨h1, h2⟩ := h.at (by omega)
  refine .inr ⟨by omega, by omega, ?_⟩
  rw [h2, hi, hf, segU_nil, List.drop_length, readC, if_pos rfl]
theorem RInv.full1 (h : RInv t L f i) (hc : t[i]? = some c) (h10 : c = 10) (hL : L.length = 100000) : readC [] t [] = ([], 100000, 14) := by
  have hi : i < t.length := (List.getElem?_eq_some_iff.1 hc).1
  rw [(h.at (by omega)).2, drop_conU hc, readC, if_pos h10, if_pos hL]
theorem RInv.full2 (h : RInv t L f i) (hi : i = t.length) (hf : ¬ f = t.length) (hL : L.length = 100000) : readC [] t [] = ([], 100000, 14) := by
  obtain ⟨h1, h2⟩ := h.at (by omega)
  rw [h2, hi, List.drop_length, readC, ← hi, if_neg (segU_ne hi h1 hf), if_pos hL]
theorem RInv.bad1 (h : RInv t L f i) (hc : t[i]? = some c) (h10 : c = 10) (hL : ¬ L.length = 100000) (hn : lineRef (segU t f i) = none) : readC [] t [] = ([], L.length, 3) := by
  have hi : i < t.length := (List.getElem?_eq_some_iff.1 hc).1
  rw [(h.at (by omega)).2, drop_conU hc, readC, if_pos h10, if_neg hL, hn]
theorem RInv.bad2 (h : RInv t L f i) (hi : i = t.length) (hf : ¬ f = t.length) (hL : ¬ L.length = 100000) : readC [] t [] = ([], L.length, 3) := by
  obtain ⟨h1, h2⟩ := h.at (by omega)
  rw [h2, hi, List.drop_length, readC, ← hi, if_neg (segU_ne hi h1 hf), if_neg hL]
theorem RInv.next {x : Ac} (h : RInv t L f i) (hc : t[i]? = some c) (h10 : c = 10) (hL : ¬ L.length = 100000) (hn : lineRef (segU t f i) = some x) : RInv t (L ++ [x]) (i + 1) (i + 1) := by
  have hi : i < t.length := (List.getElem?_eq_some_iff.1 hc).1
  refine .inl ⟨by omega, Nat.le_refl _, ?_⟩
  rw [(h.at (by omega)).2, drop_conU hc, readC, if_pos h10, if_neg hL, hn, segU_nil]
end
theorem readM_big {t : List UInt8} (h : (4000000 : Int) < ((t.length : Nat) : Int)) : readM t = ([], 0, 1) := if_pos (by omega)
theorem readM_go {t : List UInt8} (h : ¬ (4000000 : Int) < ((t.length : Nat) : Int)) : readM t = readC [] t [] := if_neg (by omega)
def ReadPost (w : World) (R : List Ac × Nat × Int) (e : Ending) (w' : World) : Prop := ∃ A c, e = .returned (.tuple #[.slice A R.1.length c, .int .i64 ((R.2.1 : Nat) : Int), .int .i64 R.2.2]) ∧ St w.heap.size w w' [.rdo 11 A R.1.length (R.1.flatMap Ac.cells)]
theorem ReadPost.none {w w' : World} {fs : List Fact} {k : Nat} {v : Int} (S : St w.heap.size w w' fs) : ReadPost w ([], k, v) (.returned (.tuple #[.slice none 0 0, .int .i64 ((k : Nat) : Int), .int .i64 v])) w' :=
  ⟨Option.none, 0, rfl, rdo_nil (show St w.heap.size w w' [] from ⟨S.low, S.base, fun i f h => by simp at h, fun i j f g _ h => by simp at h⟩)⟩
end Go.Proofs.YtkjlafpafmihaaaDoor

namespace Go.Proofs.YtkjlafpafmihaaaDoor
open Go.ChangeShapes Go.WideShapes Go.RowKit
def trimM (s : List UInt8) : List UInt8 := Lib.trimSuffix s [10]
theorem trim_nl (s : List UInt8) : trimM (s ++ [10]) = s := by
  have h : Lib.hasSuffix (s ++ [10]) [10] = true := by
    show [(10 : UInt8)].isSuffixOf (s ++ [10]) = true
    rw [List.isSuffixOf_iff_suffix]
    exact ⟨s, rfl⟩
  unfold trimM Lib.trimSuffix
  rw [if_pos h]
  simp
theorem St.none_ {w w' : World} (hb : Below w.heap.size w w') : St w.heap.size w w' [] := (St.start w).on hb
theorem trimM_len (s : List UInt8) : (trimM s).length ≤ s.length := by
  unfold trimM Lib.trimSuffix
  split
  · rw [List.length_take]; omega
  · exact Nat.le_refl _
theorem trimL (s : List UInt8) (h : s.length ≤ 4000000) (w : World) : Calls Tryd.prog 31 #[str s, .string ⟨#[10]⟩] w (SPost w (trimM s)) :=
  (trim_calls ⟨s.toArray⟩ w (by rw [str_size]; omega)).mono fun e w' ⟨he, hw⟩ => by subst hw; exact ⟨he, Below.refl _ _⟩
def WordsPost (w : World) (ws : List (List UInt8)) (e : Ending) (w' : World) : Prop := ∃ A, e = .returned (.slice A ws.length ws.length) ∧ St w.heap.size w w' [.rdo 1 A ws.length (ws.flatMap strC)]
theorem splitL (s : List UInt8) (h : s.length ≤ 4000000) (w : World) : Calls Tryd.prog 30 #[str s, .string ⟨#[32]⟩] w (WordsPost w (wordsC [] s)) := by
  refine (split_calls ⟨s.toArray⟩ w (by rw [str_size]; omega)).mono fun e w' ⟨he, hw⟩ => ?_
  subst hw
  have hc : Lib.countB ⟨s.toArray⟩ ⟨#[32]⟩ = s.count 32 := by show Lib.count s [32] = _; rw [Lib.count_one]
  have hd : (Lib.splitB ⟨#[32]⟩ 0 (Lib.countB ⟨s.toArray⟩ ⟨#[32]⟩) ⟨s.toArray⟩).map (·.data.toList) = wordsC [] s := by
    rw [Lib.splitB_data, hc]
    exact split_words _ s rfl
  have hlen : Lib.countB ⟨s.toArray⟩ ⟨#[32]⟩ + 1 = (wordsC [] s).length := by
    rw [← hd, List.length_map, Lib.splitB_all ⟨#[32]⟩ (by decide) 0 _ ⟨s.toArray⟩ rfl]
  have hm : (Lib.splitB ⟨#[32]⟩ 0 (Lib.countB ⟨s.toArray⟩ ⟨#[32]⟩) ⟨s.toArray⟩).map Value.string = (wordsC [] s).flatMap strC := by
    rw [← hd]
    generalize Lib.splitB ⟨#[32]⟩ 0 (Lib.countB ⟨s.toArray⟩ ⟨#[32]⟩) ⟨s.toArray⟩ = l
    induction l with
    | nil => rfl
    | cons b l ih => rw [List.map_cons, List.map_cons, List.flatMap_cons, ih]; rfl
  rw [hlen] at he
  rw [hm]
  refine ⟨_, he, ?_⟩
  exact St.blkRdo (n := (wordsC [] s).length) (s := 1) (xs := (wordsC [] s).flatMap strC) 0 (St.start w).alloc rfl (by simp) (by rw [fm_len (sz := 1) (fun _ => rfl)])
def AtoiPost (w : World) (s : List UInt8) (e : Ending) (w' : World) : Prop := ∃ ev, e = .returned (.tuple #[.int .i64 (atoiV s), ev]) ∧ St w.heap.size w w' []
theorem atoiL (s : List UInt8) (h : s.length ≤ 4000000) (w : World) (he : ErrVars w) : Calls Tryd.prog 33 #[str s] w (AtoiPost w s) :=
  (atoi_calls ⟨s.toArray⟩ (by rw [str_size]; omega) w he).mono fun e w' ⟨⟨ev, h1⟩, h2⟩ => ⟨ev, h1, St.none_ h2⟩
/-! ### The kinds -/
theorem kindL_at : ∀ k < 10, ∀ e < 4, kindL[4 * k + e]? = some (((k + 1 : Nat) : Int), ((e : Nat) : Int)) := by decide
section
variable {u : List UInt8} {n : Nat} {p : Int × Int} {l : List (Nat × Int)}
theorem hitK_no1 (h : formL p.1 p.2 = none) : hitK u p = false := by simp [hitK, h]
theorem hitK_no2 (h : ¬ wordP p = u) : hitK u p = false := by simp [hitK, h]
theorem hitK_no3 (h1 : ¬ p.1 = 2) (h2 : ¬ p.2 = 0) : hitK u p = false := by simp [hitK, h1, h2]
theorem hitK_yes (hf : formL p.1 p.2 = some l) (hw : wordP p = u) (h : p.1 = 2 ∨ p.2 = 0) : hitK u p = true := by
  have h2 : (decide (p.1 = 2) || decide (p.2 = 0)) = true := by rcases h with h | h <;> simp [h]
  unfold hitK
  rw [hf, h2, decide_eq_true hw]
  rfl
theorem kind_next (h : kindL[n]? = some p) (hn : hitK u p = false) : (kindL.drop n).find? (hitK u) = (kindL.drop (n + 1)).find? (hitK u) := by
  obtain ⟨hk, rfl⟩ := List.getElem?_eq_some_iff.1 h
  rw [List.drop_eq_getElem_cons hk, List.find?_cons_of_neg (by simp [hn])]
theorem kind_here (h : kindL[n]? = some p) (hn : hitK u p = true) (hq : kindL.find? (hitK u) = (kindL.drop n).find? (hitK u)) : kindM u = p := by
  obtain ⟨hk, rfl⟩ := List.getElem?_eq_some_iff.1 h
  unfold kindM
  rw [hq, List.drop_eq_getElem_cons hk, List.find?_cons_of_pos hn]
  rfl
theorem kind_no (hn : 40 ≤ n) (hq : kindL.find? (hitK u) = (kindL.drop n).find? (hitK u)) : kindM u = (0, 0) := by
  have hl : kindL.length = 40 := by decide
  unfold kindM
  rw [hq, List.drop_of_length_le (by omega)]
  rfl
end
/-! ### An act's row while it is filled -/
theorem zip_take {α β : Type} : ∀ (n : Nat) (l : List α) (vs : List β), (l.take n).zip vs = (l.zip vs).take n
  | 0, _, _ => by simp
  | n + 1, [], _ => by simp
  | n + 1, _ :: _, [] => by simp
  | n + 1, a :: l, v :: vs => by
    rw [List.take_succ_cons, List.zip_cons_cons, List.zip_cons_cons, List.take_succ_cons, zip_take n l vs]
section
variable {c : List Int} {l : List (Nat × Int)} {vs : List Int} {j : Nat} {p : Nat × Int} {v : Int}
theorem putA_some (h : l[j]? = some p) (hv : vs[j]? = some v) : (putA c (l.take j) vs).set p.1 v = putA c (l.take (j + 1)) vs := by
  unfold putA
  rw [zip_take, zip_take, List.take_add_one, show (l.zip vs)[j]? = some (p, v) from List.getElem?_zip_eq_some.2 ⟨h, hv⟩, Option.toList_some, List.foldl_append]
  rfl
theorem putA_none (hv : vs.length ≤ j) : putA c (l.take (j + 1)) vs = putA c (l.take j) vs := by
  unfold putA
  have e : (l.zip vs)[j]? = none := by rw [List.getElem?_eq_none_iff, List.length_zip]; omega
  rw [zip_take, zip_take, List.take_add_one, e, Option.toList_none, List.append_nil]
theorem acRow_setv {i : Nat} : (acRow c).setIfInBounds i (.int .i64 v) = acRow (c.set i v) := by
  apply Array.toList_inj.1
  simp [acRow, intVs, Array.toList_setIfInBounds, List.map_set]
theorem acRow_mk {q : Int × Int} : acRow (putA (bareA q).ints l vs) = (mkA q l vs).cells.toArray := by
  rw [Ac.cells_eq, mkA_ints]
  rfl
theorem actM_some {ws : List (List UInt8)} {q : Int × Int} (hq : kindM (ws.headD []) = q) (hf : formL q.1 q.2 = some l) : actM ws = mkA q l (ws.tail.map atoiV) := by
  unfold actM
  simp only [hq, hf]
theorem actM_none {ws : List (List UInt8)} {q : Int × Int} (hq : kindM (ws.headD []) = q) (hf : formL q.1 q.2 = none) : actM ws = bareA q := by
  unfold actM
  simp only [hq, hf]
end
section
variable {P : Program} {N : Nat} {l : Slots} {w w' w0 : World} {B : Nat} {fs : List Fact} {ops : Array Oper} {o : Oper} {Q : Exit → Act → World → Prop} {v : Value} {C : World → Prop} {n i : Nat} {listed listed' : Array Bool}
theorem wN_stAt {ty t : TypeId} {x y : Operand} {b k : Nat} {u : Value} {row row' : Array Value} (hi' : ops[i]? = some o) (hl : listed.setIfInBounds i true = listed') (j : Nat) (S : St B w0 w fs) (hw : Wanted N ops l o true) (hd : o.dst = none) (ho : o.op = .store ty x y) (hx : ev l x = some (.pointer (some ⟨b, k, none⟩))) (hy : ev l y = some v)
    (hi : fs[j]? = some (.blk b row t)) (hv : v.cells = #[u]) (hz : (P.info? ty).map (·.size) = some 1) (h1 : u.oneCell' = true) (hk : k < row.size) (hrow : row.setIfInBounds k u = row')
    (h : ∀ w', St B w0 w' (fs.set j (.blk b row' t)) → C w' ∧ wA P N ops Q C n listed' l w') : wK P N ops Q C n i listed l w := by
  refine wN_st hi' hl j S hw hd ho hx hy hi hv hz rfl (by simpa using h1) (by omega) (row' := row') ?_ rfl h
  subst hrow
  rfl
end
end Go.Proofs.YtkjlafpafmihaaaDoor

namespace Go.Proofs.YtkjlafpafmihaaaDoor
open Go.ChangeShapes Go.WideShapes Go.RowKit

set_option maxRecDepth 100000 in
set_option maxHeartbeats 8000000 in
theorem kind_calls (u : List UInt8) (w : World) :
    Calls Tryd.prog 32 #[str u] w (AcPost w (bareA (kindM u))) := by
 have S := St.start w
 refine fnw 42 Tryd.func32 ?_
 refine cw [0] ?_
 refine x_sr (na (row := #[.int .i64 0, .int .i64 0, .int .i64 0, .int .i64 0, .int .i64 0, .int .i64 0, .int .i64 0, .int .i64 0, .int .i64 0, .int .i64 0, .int .i64 0]) S Tryd.zeroValue41 ?_); intro b1 w2 S3; clear S
 refine wL_nil (wQ_then (wC_seq (wC_seq (wC_region (va ?_)))))
 refine wL_nil (wQ_then (wC_block (wC_loop (X := Nat) (fun xv => [(0, str u), (2, .pointer (some ⟨b1, 0, none⟩)), (3, .int .i64 ((xv + 1 : Nat) : Int))]) (fun xv wr => (xv ≤ 10) ∧ (kindL.find? (hitK u) = (kindL.drop (4 * xv)).find? (hitK u)) ∧ St w.heap.size w wr [.blk b1 #[.int .i64 0, .int .i64 0, .int .i64 0, .int .i64 0, .int .i64 0, .int .i64 0, .int .i64 0, .int .i64 0, .int .i64 0, .int .i64 0, .int .i64 0] 41]) (fun xv => 10 - xv) (0) ?_ ?_ ?_)))
 ·exact ⟨Nat.zero_le _, rfl, S3⟩
 ·exact ⟨rfl, rfl, rfl, trivial⟩
 ·rintro k w4 ⟨hi6, hi7, S5⟩
  try dsimp only at hi6 hi7 S5; clear S3
  refine wC_sub (l' := [(0, str u), (2, .pointer (some ⟨b1, 0, none⟩)), (3, .int .i64 ((k + 1 : Nat) : Int))]) ⟨rfl, rfl, rfl, trivial⟩ (wC_seq (wC_seq (wC_region (vm ?_))))
  by_cases h8 : ((k + 1 : Nat) : Int) ≤ 10
  ·refine vv (yleqT h8) ?_
   refine qk [0, 2, 3, 10] ?_
   refine wQ_then (wC_cond_t rfl (wC_skip (wQ_then (wC_seq (wC_block (wC_seq (wC_region (va ?_))))))))
   refine qk [0, 2, 3, 4] ?_
   refine wQ_then (wC_block (wC_loop (X := Nat) (fun xv => [(0, str u), (2, .pointer (some ⟨b1, 0, none⟩)), (3, .int .i64 ((k + 1 : Nat) : Int)), (4, .int .i64 ((xv : Nat) : Int))]) (fun xv wr => (xv ≤ 4) ∧ (kindL.find? (hitK u) = (kindL.drop (4 * k + xv)).find? (hitK u)) ∧ St w.heap.size w wr [.blk b1 #[.int .i64 0, .int .i64 0, .int .i64 0, .int .i64 0, .int .i64 0, .int .i64 0, .int .i64 0, .int .i64 0, .int .i64 0, .int .i64 0, .int .i64 0] 41]) (fun xv => 4 - xv) (0) ?_ ?_ ?_))
   ·exact ⟨Nat.zero_le _, hi7, S5⟩
   ·exact ⟨rfl, rfl, rfl, rfl, trivial⟩
   ·rintro e w9 ⟨hi11, hi12, S10⟩
    try dsimp only at hi11 hi12 S10; clear S5
    refine wC_sub (l' := [(0, str u), (2, .pointer (some ⟨b1, 0, none⟩)), (3, .int .i64 ((k + 1 : Nat) : Int)), (4, .int .i64 ((e : Nat) : Int))]) ⟨rfl, rfl, rfl, rfl, trivial⟩ (wC_seq (wC_seq (wC_region (vm ?_))))
    by_cases h13 : ((e : Nat) : Int) ≤ 3
    ·refine vv (yleqT h13) ?_
     refine qk [0, 2, 3, 4, 14] ?_
     refine wQ_then (wC_cond_t rfl (wC_skip (wQ_then (wC_seq (wC_block (wC_seq (wC_region (vm ?_))))))))
     refine vm ?_
     refine vv (v := .agg #[.int .i64 ((e : Nat) : Int), .int .i64 0, .int .i64 0, .int .i64 0, .int .i64 0, .int .i64 0]) (y_build (vs := [(0, .int .i64 ((e : Nat) : Int))]) rfl ⟨rfl, rfl, trivial⟩ (by kernel_rfl)) ?_
     refine vv (v := .agg #[.int .i64 ((k + 1 : Nat) : Int), .int .i64 0, .int .i64 0, .int .i64 0, .int .i64 0, .int .i64 ((e : Nat) : Int), .int .i64 0, .int .i64 0, .int .i64 0, .int .i64 0, .int .i64 0]) (y_build (vs := [(0, .int .i64 ((k + 1 : Nat) : Int)), (5, .agg #[.int .i64 ((e : Nat) : Int), .int .i64 0, .int .i64 0, .int .i64 0, .int .i64 0, .int .i64 0])]) rfl ⟨rfl, rfl, rfl, rfl, trivial⟩ (by kernel_rfl)) ?_
     refine na (row := #[.int .i64 0, .int .i64 0, .int .i64 0, .int .i64 0, .int .i64 0, .int .i64 0, .int .i64 0, .int .i64 0, .int .i64 0, .int .i64 0, .int .i64 0]) S10 Tryd.zeroValue41 ?_; intro b14 w15 S16; clear S10
     refine sa 0 S16 inf41 ?_; intro w17 S18; clear S16
     refine qk [0, 2, 3, 4, 5] ?_
     refine wQ_then (wC_seq ?_)
     have HF := fun w h => form_calls b14 (bareA (((k + 1 : Nat) : Int), ((e : Nat) : Int))) w h
     rcases hf : formL (((k + 1 : Nat) : Int), ((e : Nat) : Int)).1 (((k + 1 : Nat) : Int), ((e : Nat) : Int)).2 with _ | l
     ·rw [show formL (bareA (((k + 1 : Nat) : Int), ((e : Nat) : Int))).kd (bareA (((k + 1 : Nat) : Int), ((e : Nat) : Int))).ek = none from hf] at HF
      refine wC_region (wL_call (wn rfl) rfl rfl (e_call (vs := [.pointer (some ⟨b14, 0, none⟩)]) rfl en20 ⟨rfl, trivial⟩) (HF _ (St.bld 0 S18 rfl rfl rfl)) ?_)
      rintro _ w19 ⟨rfl, hb21⟩
      refine ⟨_, rfl, ?_⟩
      have S20 := S18.on hb21; clear hb21 S18
      refine vm ?_
      refine vv yx ?_
      refine vv yx ?_
      refine vv yx ?_
      iterate 3 refine va ?_
      refine qk [0, 2, 3, 4, 5, 6, 8] ?_
      refine x_tsr (vm ?_)
      refine vm ?_
      iterate 3 refine vs ?_
      refine vv ypF ?_
      refine vm ?_
      iterate 6 refine vs ?_
      refine vv ypF ?_
      refine qk [0, 2, 3, 4, 5, 39] ?_
      refine wQ_then (wC_cond_f rfl (wC_skip (wQ_blk_n (wQ_then (wC_region (vm ?_))))))
      refine vv (v := .int .i64 ((e + 1 : Nat) : Int)) (y_binop rfl rfl rfl (r_add (by omega) (by omega))) ?_
      refine va ?_
      refine qk [0, 2, 3, 4] ?_
      have S22 : St _ _ _ [_] := S20.dels [0]; clear S20
      refine wQ_round (e + 1) ?_ ⟨rfl, rfl, rfl, rfl, trivial⟩ (by first | omega | (dsimp only; omega))
      exact ⟨(by omega), (by rw [hi12]; exact kind_next (kindL_at k (by omega) e (by omega)) (hitK_no1 hf)), S22⟩
     ·rw [show formL (bareA (((k + 1 : Nat) : Int), ((e : Nat) : Int))).kd (bareA (((k + 1 : Nat) : Int), ((e : Nat) : Int))).ek = some l from hf] at HF
      refine wC_region (wL_call (wn rfl) rfl rfl (e_call (vs := [.pointer (some ⟨b14, 0, none⟩)]) rfl en20 ⟨rfl, trivial⟩) (HF _ (St.bld 0 S18 rfl rfl rfl)) ?_)
      rintro _ w24 ⟨A23, rfl, T26⟩
      refine ⟨_, rfl, ?_⟩
      have S25 := S18.ext T26 rfl; clear T26 S18
      change St _ _ _ [.rdo 2 A23 l.length ((l).flatMap (slotCells b14)), _, _] at S25
      refine vm ?_
      refine vv yx ?_
      refine vv yx ?_
      refine vv yx ?_
      iterate 3 refine va ?_
      refine qk [0, 2, 3, 4, 5, 6, 8] ?_
      refine x_tsr (vm ?_)
      refine vm ?_
      refine vg ym ?_
      refine vg ym ?_
      by_cases h27 : wordP (((k + 1 : Nat) : Int), ((e : Nat) : Int)) = u
      ·refine vg (v := .bool true) (y_binop rfl rfl rfl (r_seqT h27)) ?_
       refine vv ypT ?_
       refine vm ?_
       refine vg ym ?_
       by_cases h28 : ((k + 1 : Nat) : Int) = 2
       ·refine vg (yeqlT h28) ?_
        refine vg ym ?_
        iterate 2 refine vs ?_
        refine vg ypT ?_
        refine vv ypT ?_
        refine qk [0, 2, 3, 4, 5, 39] ?_
        refine x_tysr (vv (ylr 1 S25 Tryd.underlying41 inf41) ?_)
        refine sa 2 S25 inf41 ?_; intro w29 S30; clear S25
        refine qk [2] ?_
        refine wQ_then (wC_ret (wQ_blk_ret (wQ_then_ret (wQ_then_ret (wQ_blk_ret (wQ_blk_ret (wQ_then_ret (wQ_then_ret (wQ_blk_ret (wQ_then_ret (wQ_post (rs := [.cell 2 41]) (vs := [.agg #[.int .i64 ((k + 1 : Nat) : Int), .int .i64 0, .int .i64 0, .int .i64 0, .int .i64 0, .int .i64 ((e : Nat) : Int), .int .i64 0, .int .i64 0, .int .i64 0, .int .i64 0, .int .i64 0]]) rfl ⟨⟨_, rfl, res_row 2 S30 rfl Tryd.underlying41 rfl inf41⟩, trivial⟩ ?_)))))))))))
        have hkm := kind_here (kindL_at k (by omega) e (by omega)) (hitK_yes hf h27 (.inl h28)) hi12
        rw [hkm]
        exact ⟨rfl, S30.low⟩
       ·refine vg (yeqlF h28) ?_
        refine vg ym ?_
        refine vg ym ?_
        by_cases h31 : ((e : Nat) : Int) = 0
        ·refine vg (yeqlT h31) ?_
         refine vg ypF ?_
         refine vv ypT ?_
         refine qk [0, 2, 3, 4, 5, 39] ?_
         refine x_tysr (vv (ylr 1 S25 Tryd.underlying41 inf41) ?_)
         refine sa 2 S25 inf41 ?_; intro w32 S33; clear S25
         refine qk [2] ?_
         refine wQ_then (wC_ret (wQ_blk_ret (wQ_then_ret (wQ_then_ret (wQ_blk_ret (wQ_blk_ret (wQ_then_ret (wQ_then_ret (wQ_blk_ret (wQ_then_ret (wQ_post (rs := [.cell 2 41]) (vs := [.agg #[.int .i64 ((k + 1 : Nat) : Int), .int .i64 0, .int .i64 0, .int .i64 0, .int .i64 0, .int .i64 ((e : Nat) : Int), .int .i64 0, .int .i64 0, .int .i64 0, .int .i64 0, .int .i64 0]]) rfl ⟨⟨_, rfl, res_row 2 S33 rfl Tryd.underlying41 rfl inf41⟩, trivial⟩ ?_)))))))))))
         have hkm := kind_here (kindL_at k (by omega) e (by omega)) (hitK_yes hf h27 (.inr h31)) hi12
         rw [hkm]
         exact ⟨rfl, S33.low⟩
        ·refine vg (yeqlF h31) ?_
         refine vg ypF ?_
         refine vv ypT ?_
         refine qk [0, 2, 3, 4, 5, 39] ?_
         refine wQ_then (wC_cond_f rfl (wC_skip (wQ_blk_n (wQ_then (wC_region (vm ?_))))))
         refine vv (v := .int .i64 ((e + 1 : Nat) : Int)) (y_binop rfl rfl rfl (r_add (by omega) (by omega))) ?_
         refine va ?_
         refine qk [0, 2, 3, 4] ?_
         have S34 : St _ _ _ [_] := S25.dels [1, 0]; clear S25
         refine wQ_round (e + 1) ?_ ⟨rfl, rfl, rfl, rfl, trivial⟩ (by first | omega | (dsimp only; omega))
         exact ⟨(by omega), (by rw [hi12]; exact kind_next (kindL_at k (by omega) e (by omega)) (hitK_no3 h28 h31)), S34⟩
      ·refine vg (v := .bool false) (y_binop rfl rfl rfl (r_seqF h27)) ?_
       refine vv ypT ?_
       refine vm ?_
       iterate 6 refine vs ?_
       refine vv ypF ?_
       refine qk [0, 2, 3, 4, 5, 39] ?_
       refine wQ_then (wC_cond_f rfl (wC_skip (wQ_blk_n (wQ_then (wC_region (vm ?_))))))
       refine vv (v := .int .i64 ((e + 1 : Nat) : Int)) (y_binop rfl rfl rfl (r_add (by omega) (by omega))) ?_
       refine va ?_
       refine qk [0, 2, 3, 4] ?_
       have S35 : St _ _ _ [_] := S25.dels [1, 0]; clear S25
       refine wQ_round (e + 1) ?_ ⟨rfl, rfl, rfl, rfl, trivial⟩ (by first | omega | (dsimp only; omega))
       exact ⟨(by omega), (by rw [hi12]; exact kind_next (kindL_at k (by omega) e (by omega)) (hitK_no2 h27)), S35⟩
    ·refine vv (yleqF h13) ?_
     refine qk [0, 2, 3, 4, 14] ?_
     refine wQ_then (wC_cond_f rfl (wC_exit (wQ_then_exit (wQ_then_exit (wQ_blk_same (wQ_blk_n (wQ_then (wC_region (vm ?_)))))))))
     refine vv (v := .int .i64 (((k + 1) + 1 : Nat) : Int)) (y_binop rfl rfl rfl (r_add (by omega) (by omega))) ?_
     refine va ?_
     refine qk [0, 2, 3] ?_
     obtain rfl : e = 4 := by omega
     refine wQ_round (k + 1) ?_ ⟨rfl, rfl, rfl, trivial⟩ (by first | omega | (dsimp only; omega))
     exact ⟨(by omega), (by rw [hi12, show 4 * (k + 1) = 4 * k + 4 by omega]), S10⟩
  ·refine vv (yleqF h8) ?_
   refine qk [0, 2, 3, 10] ?_
   refine wQ_then (wC_cond_f rfl (wC_exit (wQ_then_exit (wQ_then_exit (wQ_blk_same (wQ_then (wC_seq (wC_region (vv (v := .agg #[.int .i64 0, .int .i64 0, .int .i64 0, .int .i64 0, .int .i64 0, .int .i64 0, .int .i64 0, .int .i64 0, .int .i64 0, .int .i64 0, .int .i64 0]) yz ?_)))))))))
   refine sa 0 S5 inf41 ?_; intro w36 S37; clear S5
   refine qk [2] ?_
   refine x_te (wQ_post (rs := [.cell 2 41]) (vs := [.agg #[.int .i64 0, .int .i64 0, .int .i64 0, .int .i64 0, .int .i64 0, .int .i64 0, .int .i64 0, .int .i64 0, .int .i64 0, .int .i64 0, .int .i64 0]]) rfl ⟨⟨_, rfl, res_row 0 S37 rfl Tryd.underlying41 rfl inf41⟩, trivial⟩ ?_)
   have hkm := kind_no (by omega) hi7
   rw [hkm]
   exact ⟨rfl, S37.low⟩
end Go.Proofs.YtkjlafpafmihaaaDoor

namespace Go.Proofs.YtkjlafpafmihaaaDoor
open Go.ChangeShapes Go.WideShapes Go.RowKit

set_option maxRecDepth 100000 in
set_option maxHeartbeats 8000000 in
theorem act_calls (s : List UInt8) (hs : s.length ≤ 4000000) (ws : List (List UInt8)) (hws : wordsC [] (trimM s) = ws) (hwl : ∀ v ∈ ws, v.length ≤ 4000000) (w : World) (he : ErrVars w) :
    Calls Tryd.prog 18 #[str s] w (AcPost w (actM ws)) := by
 have S := St.start w
 have HS := fun w => splitL (trimM s) (Nat.le_trans (trimM_len s) hs) w
 rw [hws] at HS
 have hne := wordsC_ne (trimM s) []
 rw [hws] at hne
 have hw1 : 1 ≤ ws.length := List.length_pos_iff.2 hne
 refine fnw 48 Tryd.func18 ?_
 refine cw [0] ?_
 refine x_sr (na (row := #[.int .i64 0, .int .i64 0, .int .i64 0, .int .i64 0, .int .i64 0, .int .i64 0, .int .i64 0, .int .i64 0, .int .i64 0, .int .i64 0, .int .i64 0]) S Tryd.zeroValue41 ?_); intro b1 w2 S3; clear S
 refine wL_nil (wQ_then (wC_seq (wC_region (vm ?_))))
 refine wL_call (wn rfl) rfl rfl (e_call (vs := [str s, .string ⟨#[10]⟩]) rfl en31 ⟨rfl, rfl, trivial⟩) (trimL s hs _) ?_
 rintro _ w4 ⟨rfl, hb6⟩
 refine ⟨_, rfl, ?_⟩
 have S5 := S3.on hb6; clear hb6 S3
 refine wL_call (wn rfl) rfl rfl (e_call (vs := [str (trimM s), .string ⟨#[32]⟩]) rfl en30 ⟨rfl, rfl, trivial⟩) (HS _) ?_
 rintro _ w8 ⟨A7, rfl, T10⟩
 refine ⟨_, rfl, ?_⟩
 have S9 := S5.ext T10 rfl; clear T10 S5
 change St _ _ _ [.rdo 1 A7 ws.length ((ws).flatMap strC), _] at S9
 refine va ?_
 refine qk [2, 3] ?_
 refine wQ_then (wC_seq ?_)
 obtain ⟨b11, o12, rfl⟩ := Rd.addr (St.rdo 0 S9 rfl) (by omega)
 obtain ⟨x13, hx14⟩ := elm 0 (St.rdo 0 S9 rfl) (by omega)
 obtain ⟨p, hp⟩ : ∃ p, kindM x13 = p := ⟨_, rfl⟩
 have hq : kindM (ws.headD []) = p := by rw [← hp, List.headD_eq_head?_getD, List.head?_eq_getElem?, hx14]; rfl
 have HK := fun w => kind_calls x13 w
 rw [hp] at HK
 refine wC_region (vm ?_)
 refine vv (v := .pointer (some ⟨b11, o12 + 0 * 1, none⟩)) (y_indexAddr rfl rfl rfl (r_indexAddr 0 Tryd.underlying68 inf9 (by omega) (by omega))) ?_
 refine vv (y_load rfl rfl (r_load Tryd.underlying9 rfl (Rd.cl2 (i := 0) (St.rdo 0 S9 rfl) (fm_get (enc := strC) (sz := 1) (fun _ => rfl) hx14 rfl)))) ?_
 refine cab en32 S9 (HK _) ?_; intro w15 S16; clear S9
 refine na (row := #[.int .i64 0, .int .i64 0, .int .i64 0, .int .i64 0, .int .i64 0, .int .i64 0, .int .i64 0, .int .i64 0, .int .i64 0, .int .i64 0, .int .i64 0]) S16 Tryd.zeroValue41 ?_; intro b18 w19 S20; clear S16
 refine sa 0 S20 inf41 ?_; intro w21 S22; clear S20
 refine qk [2, 3, 4] ?_
 refine wQ_then (wC_seq ?_)
 have HF := fun w h => form_calls b18 (bareA p) w h
 rcases hf : formL p.1 p.2 with _ | l
 ·rw [show formL (bareA p).kd (bareA p).ek = none from hf] at HF
  refine wC_region (wL_call (wn rfl) rfl rfl (e_call (vs := [.pointer (some ⟨b18, 0, none⟩)]) rfl en20 ⟨rfl, trivial⟩) (HF _ (St.bld 0 S22 rfl rfl rfl)) ?_)
  rintro _ w23 ⟨rfl, hb25⟩
  refine ⟨_, rfl, ?_⟩
  have S24 := S22.on hb25; clear hb25 S22
  refine vm ?_
  refine vv yx ?_
  refine vv yx ?_
  refine vv yx ?_
  iterate 3 refine va ?_
  refine qk [2, 3, 4, 6] ?_
  refine x_tssr (vm ?_)
  refine vv (v := .int .i64 0) (y_builtin (vs := [.slice none 0 0]) rfl ⟨rfl, trivial⟩ fun _ => r_len rfl Tryd.underlying53) ?_
  refine vm ?_
  refine qk [2, 3, 4, 22, 23, 24] ?_
  refine wQ_then (wC_block (wC_unroll (wI_round (wC_seq (wC_region (vv dlssF ?_))))))
  refine wL_nil (wQ_then (wC_seq (wC_cond_f rfl (wC_exit (wQ_then_exit (wQ_then_exit (wQ_blk_same (wQ_then (wC_seq (wC_region (vv (ylr 0 S24 Tryd.underlying41 inf41) ?_)))))))))))
  refine sa 2 S24 inf41 ?_; intro w26 S27; clear S24
  refine qk [2] ?_
  refine x_te (wQ_post (rs := [.cell 2 41]) (vs := [.agg #[.int .i64 p.1, .int .i64 0, .int .i64 0, .int .i64 0, .int .i64 0, .int .i64 p.2, .int .i64 0, .int .i64 0, .int .i64 0, .int .i64 0, .int .i64 0]]) rfl ⟨⟨_, rfl, res_row 2 S27 rfl Tryd.underlying41 rfl inf41⟩, trivial⟩ ?_)
  rw [actM_none hq hf]
  exact ⟨rfl, S27.low⟩
 ·rw [show formL (bareA p).kd (bareA p).ek = some l from hf] at HF
  have hl5 := form_len hf
  refine wC_region (wL_call (wn rfl) rfl rfl (e_call (vs := [.pointer (some ⟨b18, 0, none⟩)]) rfl en20 ⟨rfl, trivial⟩) (HF _ (St.bld 0 S22 rfl rfl rfl)) ?_)
  rintro _ w29 ⟨A28, rfl, T31⟩
  refine ⟨_, rfl, ?_⟩
  have S30 := S22.ext T31 rfl; clear T31 S22
  change St _ _ _ [.rdo 2 A28 l.length ((l).flatMap (slotCells b18)), _, _, _] at S30
  refine vm ?_
  refine vv yx ?_
  refine vv yx ?_
  refine vv yx ?_
  iterate 3 refine va ?_
  refine qk [2, 3, 4, 6] ?_
  refine x_tssr (vm ?_)
  refine vv (v := .int .i64 ((l.length : Nat) : Int)) (y_builtin (vs := [.slice A28 l.length l.length]) rfl ⟨rfl, trivial⟩ fun _ => r_len rfl Tryd.underlying53) ?_
  refine vm ?_
  refine qk [2, 3, 4, 22, 23, 24] ?_
  refine wQ_then (wC_block (wC_loop (X := Nat) (fun xv => [(2, .pointer (some ⟨b1, 0, none⟩)), (3, .slice (some ⟨b11, o12, none⟩) ws.length ws.length), (4, .pointer (some ⟨b18, 0, none⟩)), (22, .slice A28 l.length l.length), (23, .int .i64 ((l.length : Nat) : Int)), (24, .int .i64 ((xv : Nat) : Int))]) (fun xv wr => (xv ≤ l.length) ∧ St w.heap.size w wr [.rdo 2 A28 l.length ((l).flatMap (slotCells b18)), .blk b18 (acRow (putA (bareA p).ints (l.take xv) (ws.tail.map atoiV))) 41, .rdo 1 (some ⟨b11, o12, none⟩) ws.length ((ws).flatMap strC), .blk b1 #[.int .i64 0, .int .i64 0, .int .i64 0, .int .i64 0, .int .i64 0, .int .i64 0, .int .i64 0, .int .i64 0, .int .i64 0, .int .i64 0, .int .i64 0] 41]) (fun xv => l.length - xv) (0) ?_ ?_ ?_))
  ·exact ⟨Nat.zero_le _, S30⟩
  ·exact ⟨rfl, rfl, rfl, rfl, rfl, rfl, trivial⟩
  ·rintro j w32 ⟨hi34, S33⟩
   try dsimp only at hi34 S33; clear S30
   refine wC_sub (l' := [(2, .pointer (some ⟨b1, 0, none⟩)), (3, .slice (some ⟨b11, o12, none⟩) ws.length ws.length), (4, .pointer (some ⟨b18, 0, none⟩)), (22, .slice A28 l.length l.length), (23, .int .i64 ((l.length : Nat) : Int)), (24, .int .i64 ((j : Nat) : Int))]) ⟨rfl, rfl, rfl, rfl, rfl, rfl, trivial⟩ (wC_seq (wC_region ?_))
   by_cases h35 : ((j : Nat) : Int) < ((l.length : Nat) : Int)
   ·refine vv (ylssT h35) ?_
    refine wL_nil (wQ_then (wC_seq (wC_cond_t rfl (wC_skip (wQ_then (wC_seq (wC_block (wC_seq (wC_region (vm ?_))))))))))
    obtain ⟨b36, o37, rfl⟩ := Rd.addr (St.rdo 0 S33 rfl) (by omega)
    obtain ⟨x38, hx39⟩ := elm j (St.rdo 0 S33 rfl) (by omega)
    refine vv (v := .pointer (some ⟨b36, o37 + j * 2, none⟩)) (y_indexAddr rfl rfl rfl (r_indexAddr j Tryd.underlying53 inf59 (by omega) (by omega))) ?_
    refine vv (y_load rfl rfl (r_load_agg (cs := (slotCells b18) x38) Tryd.underlying59 rfl inf59 rfl (Rd.rg2 (St.rdo 0 S33 rfl) (fun _ _ h => fm_get (enc := (slotCells b18)) (sz := 2) (fun _ => rfl) hx39 h)))) ?_
    refine na (row := #[.pointer none, .int .i64 0]) S33 Tryd.zeroValue59 ?_; intro b40 w41 S42; clear S33
    refine va ?_
    refine sa 0 S42 inf59 ?_; intro w43 S44; clear S42
    refine qk [2, 3, 4, 22, 23, 24, 9, 8] ?_
    refine x_tsr (vm ?_)
    refine vv (v := .int .i64 ((j + 1 : Nat) : Int)) (y_binop rfl rfl rfl (r_add (by omega) (by omega))) ?_
    refine vm ?_
    refine vv (v := .int .i64 ((ws.length : Nat) : Int)) (y_builtin (vs := [.slice (some ⟨b11, o12, none⟩) ws.length ws.length]) rfl ⟨rfl, trivial⟩ fun _ => r_len rfl Tryd.underlying68) ?_
    by_cases h45 : ((j + 1 : Nat) : Int) < ((ws.length : Nat) : Int)
    ·refine vv (ylssT h45) ?_
     refine qk [2, 3, 4, 22, 23, 24, 9, 8, 33] ?_
     refine wQ_then (wC_cond_t rfl ?_)
     obtain ⟨x46, hx47⟩ := elm (j + 1) (St.rdo 3 S44 rfl) (by omega)
     have hv : (ws.tail.map atoiV)[j]? = some (atoiV x46) := by rw [List.getElem?_map, List.getElem?_tail, hx47]; rfl
     have hlu : x46.length ≤ 4000000 := hwl x46 (List.mem_of_getElem? hx47)
     have hlt := form_lt hf x38 (List.mem_of_getElem? hx39)
     have S48 := S44.drew; clear S44
     refine wC_any_ (C := fun w' => St w.heap.size w w' [.blk b40 #[.pointer (some ⟨b18, x38.1, none⟩), .int .i64 x38.2] 59, .rdo 2 (some ⟨b36, o37, none⟩) l.length ((l).flatMap (slotCells b18)), .rdo 1 (some ⟨b11, o12, none⟩) ws.length ((ws).flatMap strC), .blk b1 #[.int .i64 0, .int .i64 0, .int .i64 0, .int .i64 0, .int .i64 0, .int .i64 0, .int .i64 0, .int .i64 0, .int .i64 0, .int .i64 0, .int .i64 0] 41]) (n := 13) (listed := #[false, false, false, false, false, false, false, false, false, false, false, false, false]) mixed rfl rfl ?_
     refine ak (v := .pointer (some ⟨b40, 0, none⟩)) 0 rfl (St.del 2 S48) (fun _ _ => yfa _ fa59_0) ?_
     refine ak (v := .pointer (some ⟨b18, x38.1, none⟩)) 1 rfl (St.del 2 S48) (fun _ Sx50 => ylc 0 Sx50 Tryd.underlying57) ?_
     refine ak (v := .slice (some ⟨b11, o12, none⟩) ws.length ws.length) 2 rfl (St.del 2 S48) (fun _ _ => ym) ?_
     refine ak (v := .int .i64 ((j : Nat) : Int)) 3 rfl (St.del 2 S48) (fun _ _ => ym) ?_
     refine ak (v := .int .i64 ((j + 1 : Nat) : Int)) 4 rfl (St.del 2 S48) (fun _ _ => (y_binop rfl rfl rfl (r_add (by omega) (by omega)))) ?_
     refine ak (v := .pointer (some ⟨b11, o12 + (j + 1) * 1, none⟩)) 5 rfl (St.del 2 S48) (fun _ _ => (y_indexAddr rfl rfl rfl (r_indexAddr (j + 1) Tryd.underlying68 inf9 (by omega) (by omega)))) ?_
     refine ak (v := str x46) 6 rfl (St.del 2 S48) (fun _ Sx55 => (y_load rfl rfl (r_load Tryd.underlying9 rfl (Rd.cl2 (i := 0) (St.rdo 2 Sx55 rfl) (fm_get (enc := strC) (sz := 1) (fun _ => rfl) hx47 rfl))))) ?_
     refine aq1 7 ?_
     refine caln 7 rfl en33 (atoiL x46 hlu _ (he.on S48.low)) ?_
     rintro _ w57 ⟨ev56, rfl, T59⟩
     refine ⟨_, rfl, ?_⟩
     have S58 := S48.ext T59 rfl; clear T59 S48
     change St _ _ _ [_, _, _, _, _] at S58
     refine ⟨(St.del 2 S58), ?_⟩
     refine ak (v := .tuple #[.int .i64 (atoiV x46), ev56]) 8 rfl (St.del 2 S58) (fun _ _ => ym) ?_
     refine ak (v := .int .i64 (atoiV x46)) 9 rfl (St.del 2 S58) (fun _ _ => yx) ?_
     refine ak (v := ev56) 10 rfl (St.del 2 S58) (fun _ _ => yx) ?_
     refine ak (v := .pointer (some ⟨b18, x38.1, none⟩)) 11 rfl (St.del 2 S58) (fun _ _ => y_nil rfl rfl trivial) ?_
     refine aq1 12 ?_
     refine wN_stAt (i := 12) rfl rfl (v := .int .i64 (atoiV x46)) (row' := acRow (putA (bareA p).ints (l.take (j + 1)) (ws.tail.map atoiV))) 2 S58 (wn rfl) rfl rfl rfl rfl rfl rfl inf3 rfl (by rw [acRow_size (by rw [putA_len]; rfl)]; exact hlt.2.1) (by rw [acRow_setv, putA_some hx39 hv]) ?_; intro w64 S65; clear S58
     change St _ _ _ [_, _, .blk b18 (acRow (putA (bareA p).ints (l.take (j + 1)) (ws.tail.map atoiV))) 41, _, _] at S65
     refine ⟨(St.del 2 S65), ?_⟩
     refine wA_done (by kernel_rfl) ?_
     refine pk [2, 3, 4, 22, 23, 24] ?_
     refine wQ_blk_n (wQ_then (wC_region (vv (v := .int .i64 ((j + 1 : Nat) : Int)) (y_binop rfl rfl rfl (r_add (by omega) (by omega))) ?_)))
     refine vm ?_
     refine qk [2, 3, 4, 22, 23, 24] ?_
     have S66 : St _ _ _ [_, _, _, _] := S65.dels [0]; clear S65
     refine wQ_round (j + 1) ?_ ⟨rfl, rfl, rfl, rfl, rfl, rfl, trivial⟩ (by first | omega | (dsimp only; omega))
     exact ⟨(by omega), S66⟩
    ·refine vv (ylssF h45) ?_
     refine qk [2, 3, 4, 22, 23, 24, 9, 8, 33] ?_
     refine wQ_then (wC_cond_f rfl (wC_skip (wQ_blk_n (wQ_then ?_))))
     rw [← putA_none (c := (bareA p).ints) (l := l) (vs := ws.tail.map atoiV) (j := j) (by rw [List.length_map, List.length_tail]; omega)] at S44
     refine wC_region (vv (v := .int .i64 ((j + 1 : Nat) : Int)) (y_binop rfl rfl rfl (r_add (by omega) (by omega))) ?_)
     refine vm ?_
     refine qk [2, 3, 4, 22, 23, 24] ?_
     have S67 : St _ _ _ [_, _, _, _] := S44.dels [0]; clear S44
     refine wQ_round (j + 1) ?_ ⟨rfl, rfl, rfl, rfl, rfl, rfl, trivial⟩ (by first | omega | (dsimp only; omega))
     exact ⟨(by omega), S67⟩
   ·refine vv (ylssF h35) ?_
    refine wL_nil (wQ_then (wC_seq (wC_cond_f rfl (wC_exit (wQ_then_exit (wQ_then_exit (wQ_blk_same (wQ_then (wC_seq ?_)))))))))
    obtain rfl : j = l.length := by omega
    rw [List.take_length] at S33
    obtain ⟨X, hX⟩ : ∃ X, mkA p l (ws.tail.map atoiV) = X := ⟨_, rfl⟩
    rw [acRow_mk, hX] at S33
    change St _ _ _ [_, .blk b18 #[.int .i64 X.kd, .int .i64 X.nd, .int .i64 X.qu, .int .i64 X.at_, .int .i64 X.kp, .int .i64 X.ek, .int .i64 X.ep, .int .i64 X.ei, .int .i64 X.eb, .int .i64 X.eh, .int .i64 X.en] 41, _, _] at S33
    refine wC_region (vv (ylr 1 S33 Tryd.underlying41 inf41) ?_)
    refine sa 3 S33 inf41 ?_; intro w68 S69; clear S33
    refine qk [2] ?_
    refine x_te (wQ_post (rs := [.cell 2 41]) (vs := [.agg #[.int .i64 X.kd, .int .i64 X.nd, .int .i64 X.qu, .int .i64 X.at_, .int .i64 X.kp, .int .i64 X.ek, .int .i64 X.ep, .int .i64 X.ei, .int .i64 X.eb, .int .i64 X.eh, .int .i64 X.en]]) rfl ⟨⟨_, rfl, res_row 3 S69 rfl Tryd.underlying41 rfl inf41⟩, trivial⟩ ?_)
    rw [actM_some hq hf, hX]
    exact ⟨rfl, S69.low⟩
end Go.Proofs.YtkjlafpafmihaaaDoor

namespace Go.Proofs.YtkjlafpafmihaaaDoor
open Go.ChangeShapes Go.WideShapes Go.RowKit

set_option maxRecDepth 100000 in
set_option maxHeartbeats 8000000 in
theorem actNumW_calls (x : Ac) (l : List (Nat × Int)) (hf : formL x.kd x.ek = some l) (w : World) :
    Calls Tryd.prog 24 #[.agg #[.int .i64 x.kd, .int .i64 x.nd, .int .i64 x.qu, .int .i64 x.at_, .int .i64 x.kp, .int .i64 x.ek, .int .i64 x.ep, .int .i64 x.ei, .int .i64 x.eb, .int .i64 x.eh, .int .i64 x.en]] w (NumWPost w x l) := by
 have S := St.start w
 refine fnw 79 Tryd.func24 ?_
 refine cw [0] ?_
 refine x_sr (nb (row := #[.int .i64 x.kd, .int .i64 x.nd, .int .i64 x.qu, .int .i64 x.at_, .int .i64 x.kp, .int .i64 x.ek, .int .i64 x.ep, .int .i64 x.ei, .int .i64 x.eb, .int .i64 x.eh, .int .i64 x.en]) S ?_); intro b1 w2 S3; clear S
 iterate 2 refine va ?_
 refine qk [1, 2, 3] ?_
 refine wQ_then (wC_seq (wC_seq ?_))
 rcases kinds x.kd x.ek with hk | hk | hk | hk | hk | hk | hk | hk | hk | ⟨hk, hek⟩ | ⟨hk, hek⟩ | ⟨hk, hek⟩ | hn
 ·have hl := hf
  simp [formL, hk] at hl
  subst hl
  have HW := fun w => ActWord_calls x w
  rw [show wordOf x.kd x.ek = ⟨#[109, 97, 107, 101]⟩ from by simp [wordOf, hk]] at HW
  refine wC_region (vv (ylr 0 S3 Tryd.underlying41 inf41) ?_)
  refine cab en23 S3 (HW _) ?_; intro w4 S5; clear S3
  refine qk [1, 2, 3, 5] ?_
  refine wQ_then (wC_block (wC_seq (wC_seq (wC_region (vv (v := .bool true) (y_binop rfl rfl rfl (r_seql (by kernel_rfl))) ?_)))))
  refine va ?_
  refine qk [1, 2, 3, 5, 6] ?_
  refine wQ_then (wC_cond_t rfl (wC_skip (wQ_then (wC_cond_t rfl (wC_seq (wC_region (vv (yfa 2 fa41_2) ?_)))))))
  refine vv (ylc 0 S5 Tryd.underlying3) ?_
  refine vv (yfa 1 fa41_1) ?_
  refine vv (ylc 0 S5 Tryd.underlying3) ?_
  refine wL_new (V := fun b => .slice (some ⟨b, 0, none⟩) 2 2) (row := #[.int .i64 x.qu, .int .i64 x.nd]) (t := 3) S5 (wn rfl) rfl rfl (d_buildSlice (vs := [(0, .int .i64 x.qu), (1, .int .i64 x.nd)]) rfl ⟨rfl, rfl, rfl, rfl, trivial⟩ (by kernel_rfl)) ?_; intro b7 w8 S9; clear S5
  refine wL_new (V := fun b => .slice (some ⟨b, 0, none⟩) 2 2) (row := #[.int .i64 3, .int .i64 4]) (t := 3) S9 (wn rfl) rfl rfl (d_buildSlice (vs := [(0, .int .i64 3), (1, .int .i64 4)]) rfl ⟨rfl, rfl, rfl, rfl, trivial⟩ (by kernel_rfl)) ?_; intro b10 w11 S12; clear S9
  iterate 2 refine va ?_
  refine qk [2, 3] ?_
  refine x_tech (wQ_post (rs := [.tmp 2, .tmp 3]) (vs := [.slice (some ⟨b7, 0, none⟩) 2 2, .slice (some ⟨b10, 0, none⟩) 2 2]) rfl ⟨rfl, rfl, trivial⟩ ?_)
  have S13 : St _ _ _ [_] := S12.dels [2, 0]; clear S12
  have S9 := St.blkOwn (s := 1) (n := 2) (xs := [.int .i64 x.qu, .int .i64 x.nd]) 0 S13 rfl rfl rfl (by decide)
  exact ⟨_, _, rfl, S9⟩
 ·have hl := hf
  simp [formL, hk] at hl
  subst hl
  have HW := fun w => ActWord_calls x w
  rw [show wordOf x.kd x.ek = ⟨#[109, 111, 118, 101]⟩ from by simp [wordOf, hk]] at HW
  refine wC_region (vv (ylr 0 S3 Tryd.underlying41 inf41) ?_)
  refine cab en23 S3 (HW _) ?_; intro w14 S15; clear S3
  refine qk [1, 2, 3, 5] ?_
  refine wQ_then (wC_block (wC_seq (wC_seq (wC_region (vv (v := .bool false) (y_binop rfl rfl rfl (r_seql (by kernel_rfl))) ?_)))))
  refine va ?_
  refine qk [1, 2, 3, 5, 6] ?_
  refine wQ_then (wC_cond_f rfl (wC_region (vv (v := .bool true) (y_binop rfl rfl rfl (r_seql (by kernel_rfl))) ?_)))
  refine va ?_
  refine qk [1, 2, 3, 5, 6] ?_
  refine x_tysr (vv (yfa 2 fa41_2) ?_)
  refine vv (ylc 0 S15 Tryd.underlying3) ?_
  refine vv (yfa 1 fa41_1) ?_
  refine vv (ylc 0 S15 Tryd.underlying3) ?_
  refine wL_new (V := fun b => .slice (some ⟨b, 0, none⟩) 2 2) (row := #[.int .i64 x.qu, .int .i64 x.nd]) (t := 3) S15 (wn rfl) rfl rfl (d_buildSlice (vs := [(0, .int .i64 x.qu), (1, .int .i64 x.nd)]) rfl ⟨rfl, rfl, rfl, rfl, trivial⟩ (by kernel_rfl)) ?_; intro b17 w18 S19; clear S15
  refine wL_new (V := fun b => .slice (some ⟨b, 0, none⟩) 2 2) (row := #[.int .i64 3, .int .i64 4]) (t := 3) S19 (wn rfl) rfl rfl (d_buildSlice (vs := [(0, .int .i64 3), (1, .int .i64 4)]) rfl ⟨rfl, rfl, rfl, rfl, trivial⟩ (by kernel_rfl)) ?_; intro b20 w21 S22; clear S19
  iterate 2 refine va ?_
  refine qk [2, 3] ?_
  refine x_tech (wQ_post (rs := [.tmp 2, .tmp 3]) (vs := [.slice (some ⟨b17, 0, none⟩) 2 2, .slice (some ⟨b20, 0, none⟩) 2 2]) rfl ⟨rfl, rfl, trivial⟩ ?_)
  have S23 : St _ _ _ [_] := S22.dels [2, 0]; clear S22
  have S9 := St.blkOwn (s := 1) (n := 2) (xs := [.int .i64 x.qu, .int .i64 x.nd]) 0 S23 rfl rfl rfl (by decide)
  exact ⟨_, _, rfl, S9⟩
 ·have hl := hf
  simp [formL, hk] at hl
  subst hl
  have HW := fun w => ActWord_calls x w
  rw [show wordOf x.kd x.ek = ⟨#[115, 116, 101, 112]⟩ from by simp [wordOf, hk]] at HW
  refine wC_region (vv (ylr 0 S3 Tryd.underlying41 inf41) ?_)
  refine cab en23 S3 (HW _) ?_; intro w24 S25; clear S3
  refine qk [1, 2, 3, 5] ?_
  refine wQ_then (wC_block (wC_seq (wC_seq (wC_region (vv (v := .bool false) (y_binop rfl rfl rfl (r_seql (by kernel_rfl))) ?_)))))
  refine va ?_
  refine qk [1, 2, 3, 5, 6] ?_
  refine wQ_then (wC_cond_f rfl (wC_region (vv (v := .bool false) (y_binop rfl rfl rfl (r_seql (by kernel_rfl))) ?_)))
  refine va ?_
  refine qk [1, 2, 3, 5, 6] ?_
  refine wQ_then (wC_cond_f rfl (wC_seq (wC_seq (wC_region (vv (v := .bool true) (y_binop rfl rfl rfl (r_seql (by kernel_rfl))) ?_)))))
  refine va ?_
  refine qk [1, 2, 3, 5, 15] ?_
  refine wQ_then (wC_cond_t rfl (wC_skip (wQ_then (wC_cond_t rfl (wC_seq (wC_region (vv (yfa 1 fa41_1) ?_)))))))
  refine vv (ylc 0 S25 Tryd.underlying3) ?_
  refine wL_new (V := fun b => .slice (some ⟨b, 0, none⟩) 1 1) (row := #[.int .i64 x.nd]) (t := 3) S25 (wn rfl) rfl rfl (d_buildSlice (vs := [(0, .int .i64 x.nd)]) rfl ⟨rfl, rfl, trivial⟩ (by kernel_rfl)) ?_; intro b27 w28 S29; clear S25
  refine wL_new (V := fun b => .slice (some ⟨b, 0, none⟩) 1 1) (row := #[.int .i64 4]) (t := 3) S29 (wn rfl) rfl rfl (d_buildSlice (vs := [(0, .int .i64 4)]) rfl ⟨rfl, rfl, trivial⟩ (by kernel_rfl)) ?_; intro b30 w31 S32; clear S29
  iterate 2 refine va ?_
  refine qk [2, 3] ?_
  refine x_tech (wQ_post (rs := [.tmp 2, .tmp 3]) (vs := [.slice (some ⟨b27, 0, none⟩) 1 1, .slice (some ⟨b30, 0, none⟩) 1 1]) rfl ⟨rfl, rfl, trivial⟩ ?_)
  have S33 : St _ _ _ [_] := S32.dels [2, 0]; clear S32
  have S9 := St.blkOwn (s := 1) (n := 1) (xs := [.int .i64 x.nd]) 0 S33 rfl rfl rfl (by decide)
  exact ⟨_, _, rfl, S9⟩
 ·have hl := hf
  simp [formL, hk] at hl
  subst hl
  have HW := fun w => ActWord_calls x w
  rw [show wordOf x.kd x.ek = ⟨#[115, 116, 97, 114, 116]⟩ from by simp [wordOf, hk]] at HW
  refine wC_region (vv (ylr 0 S3 Tryd.underlying41 inf41) ?_)
  refine cab en23 S3 (HW _) ?_; intro w34 S35; clear S3
  refine qk [1, 2, 3, 5] ?_
  refine wQ_then (wC_block (wC_seq (wC_seq (wC_region (vv (v := .bool false) (y_binop rfl rfl rfl (r_seql (by kernel_rfl))) ?_)))))
  refine va ?_
  refine qk [1, 2, 3, 5, 6] ?_
  refine wQ_then (wC_cond_f rfl (wC_region (vv (v := .bool false) (y_binop rfl rfl rfl (r_seql (by kernel_rfl))) ?_)))
  refine va ?_
  refine qk [1, 2, 3, 5, 6] ?_
  refine wQ_then (wC_cond_f rfl (wC_seq (wC_seq (wC_region (vv (v := .bool false) (y_binop rfl rfl rfl (r_seql (by kernel_rfl))) ?_)))))
  refine va ?_
  refine qk [1, 2, 3, 5, 15] ?_
  refine wQ_then (wC_cond_f rfl (wC_region (vv (v := .bool true) (y_binop rfl rfl rfl (r_seql (by kernel_rfl))) ?_)))
  refine va ?_
  refine qk [1, 2, 3, 5, 15] ?_
  refine x_tysr (vv (yfa 1 fa41_1) ?_)
  refine vv (ylc 0 S35 Tryd.underlying3) ?_
  refine wL_new (V := fun b => .slice (some ⟨b, 0, none⟩) 1 1) (row := #[.int .i64 x.nd]) (t := 3) S35 (wn rfl) rfl rfl (d_buildSlice (vs := [(0, .int .i64 x.nd)]) rfl ⟨rfl, rfl, trivial⟩ (by kernel_rfl)) ?_; intro b37 w38 S39; clear S35
  refine wL_new (V := fun b => .slice (some ⟨b, 0, none⟩) 1 1) (row := #[.int .i64 4]) (t := 3) S39 (wn rfl) rfl rfl (d_buildSlice (vs := [(0, .int .i64 4)]) rfl ⟨rfl, rfl, trivial⟩ (by kernel_rfl)) ?_; intro b40 w41 S42; clear S39
  iterate 2 refine va ?_
  refine qk [2, 3] ?_
  refine x_tech (wQ_post (rs := [.tmp 2, .tmp 3]) (vs := [.slice (some ⟨b37, 0, none⟩) 1 1, .slice (some ⟨b40, 0, none⟩) 1 1]) rfl ⟨rfl, rfl, trivial⟩ ?_)
  have S43 : St _ _ _ [_] := S42.dels [2, 0]; clear S42
  have S9 := St.blkOwn (s := 1) (n := 1) (xs := [.int .i64 x.nd]) 0 S43 rfl rfl rfl (by decide)
  exact ⟨_, _, rfl, S9⟩
 ·have hl := hf
  simp [formL, hk] at hl
  subst hl
  have HW := fun w => ActWord_calls x w
  rw [show wordOf x.kd x.ek = ⟨#[99, 114, 97, 115, 104]⟩ from by simp [wordOf, hk]] at HW
  refine wC_region (vv (ylr 0 S3 Tryd.underlying41 inf41) ?_)
  refine cab en23 S3 (HW _) ?_; intro w44 S45; clear S3
  refine qk [1, 2, 3, 5] ?_
  refine wQ_then (wC_block (wC_seq (wC_seq (wC_region (vv (v := .bool false) (y_binop rfl rfl rfl (r_seql (by kernel_rfl))) ?_)))))
  refine va ?_
  refine qk [1, 2, 3, 5, 6] ?_
  refine wQ_then (wC_cond_f rfl (wC_region (vv (v := .bool false) (y_binop rfl rfl rfl (r_seql (by kernel_rfl))) ?_)))
  refine va ?_
  refine qk [1, 2, 3, 5, 6] ?_
  refine wQ_then (wC_cond_f rfl (wC_seq (wC_seq (wC_region (vv (v := .bool false) (y_binop rfl rfl rfl (r_seql (by kernel_rfl))) ?_)))))
  refine va ?_
  refine qk [1, 2, 3, 5, 15] ?_
  refine wQ_then (wC_cond_f rfl (wC_region (vv (v := .bool false) (y_binop rfl rfl rfl (r_seql (by kernel_rfl))) ?_)))
  refine va ?_
  refine qk [1, 2, 3, 5, 15] ?_
  refine x_tnsr (vv (v := .bool true) (y_binop rfl rfl rfl (r_seql (by kernel_rfl))) ?_)
  refine va ?_
  refine qk [1, 2, 3, 5, 22] ?_
  refine x_tysr (vv (yfa 1 fa41_1) ?_)
  refine vv (ylc 0 S45 Tryd.underlying3) ?_
  refine vv (yfa 4 fa41_4) ?_
  refine vv (ylc 0 S45 Tryd.underlying3) ?_
  refine wL_new (V := fun b => .slice (some ⟨b, 0, none⟩) 2 2) (row := #[.int .i64 x.nd, .int .i64 x.kp]) (t := 3) S45 (wn rfl) rfl rfl (d_buildSlice (vs := [(0, .int .i64 x.nd), (1, .int .i64 x.kp)]) rfl ⟨rfl, rfl, rfl, rfl, trivial⟩ (by kernel_rfl)) ?_; intro b47 w48 S49; clear S45
  refine wL_new (V := fun b => .slice (some ⟨b, 0, none⟩) 2 2) (row := #[.int .i64 4, .int .i64 100000]) (t := 3) S49 (wn rfl) rfl rfl (d_buildSlice (vs := [(0, .int .i64 4), (1, .int .i64 100000)]) rfl ⟨rfl, rfl, rfl, rfl, trivial⟩ (by kernel_rfl)) ?_; intro b50 w51 S52; clear S49
  iterate 2 refine va ?_
  refine qk [2, 3] ?_
  refine x_tech (wQ_post (rs := [.tmp 2, .tmp 3]) (vs := [.slice (some ⟨b47, 0, none⟩) 2 2, .slice (some ⟨b50, 0, none⟩) 2 2]) rfl ⟨rfl, rfl, trivial⟩ ?_)
  have S53 : St _ _ _ [_] := S52.dels [2, 0]; clear S52
  have S9 := St.blkOwn (s := 1) (n := 2) (xs := [.int .i64 x.nd, .int .i64 x.kp]) 0 S53 rfl rfl rfl (by decide)
  exact ⟨_, _, rfl, S9⟩
 ·have hl := hf
  simp [formL, hk] at hl
  subst hl
  have HW := fun w => ActWord_calls x w
  rw [show wordOf x.kd x.ek = ⟨#[99, 97, 114, 114, 121]⟩ from by simp [wordOf, hk]] at HW
  refine wC_region (vv (ylr 0 S3 Tryd.underlying41 inf41) ?_)
  refine cab en23 S3 (HW _) ?_; intro w54 S55; clear S3
  refine qk [1, 2, 3, 5] ?_
  refine wQ_then (wC_block (wC_seq (wC_seq (wC_region (vv (v := .bool false) (y_binop rfl rfl rfl (r_seql (by kernel_rfl))) ?_)))))
  refine va ?_
  refine qk [1, 2, 3, 5, 6] ?_
  refine wQ_then (wC_cond_f rfl (wC_region (vv (v := .bool false) (y_binop rfl rfl rfl (r_seql (by kernel_rfl))) ?_)))
  refine va ?_
  refine qk [1, 2, 3, 5, 6] ?_
  refine wQ_then (wC_cond_f rfl (wC_seq (wC_seq (wC_region (vv (v := .bool false) (y_binop rfl rfl rfl (r_seql (by kernel_rfl))) ?_)))))
  refine va ?_
  refine qk [1, 2, 3, 5, 15] ?_
  refine wQ_then (wC_cond_f rfl (wC_region (vv (v := .bool false) (y_binop rfl rfl rfl (r_seql (by kernel_rfl))) ?_)))
  refine va ?_
  refine qk [1, 2, 3, 5, 15] ?_
  refine x_tnsr (vv (v := .bool false) (y_binop rfl rfl rfl (r_seql (by kernel_rfl))) ?_)
  refine va ?_
  refine qk [1, 2, 3, 5, 22] ?_
  refine wQ_then (wC_cond_f rfl (wC_seq (wC_seq (wC_region (vv (v := .bool true) (y_binop rfl rfl rfl (r_seql (by kernel_rfl))) ?_)))))
  refine va ?_
  refine qk [1, 2, 3, 5, 30] ?_
  refine wQ_then (wC_cond_t rfl (wC_skip (wQ_then (wC_cond_t rfl (wC_seq (wC_region (vv (yfa 3 fa41_3) ?_)))))))
  refine vv (ylc 0 S55 Tryd.underlying3) ?_
  refine wL_new (V := fun b => .slice (some ⟨b, 0, none⟩) 1 1) (row := #[.int .i64 x.at_]) (t := 3) S55 (wn rfl) rfl rfl (d_buildSlice (vs := [(0, .int .i64 x.at_)]) rfl ⟨rfl, rfl, trivial⟩ (by kernel_rfl)) ?_; intro b57 w58 S59; clear S55
  refine wL_new (V := fun b => .slice (some ⟨b, 0, none⟩) 1 1) (row := #[.int .i64 1048576]) (t := 3) S59 (wn rfl) rfl rfl (d_buildSlice (vs := [(0, .int .i64 1048576)]) rfl ⟨rfl, rfl, trivial⟩ (by kernel_rfl)) ?_; intro b60 w61 S62; clear S59
  iterate 2 refine va ?_
  refine qk [2, 3] ?_
  refine x_tech (wQ_post (rs := [.tmp 2, .tmp 3]) (vs := [.slice (some ⟨b57, 0, none⟩) 1 1, .slice (some ⟨b60, 0, none⟩) 1 1]) rfl ⟨rfl, rfl, trivial⟩ ?_)
  have S63 : St _ _ _ [_] := S62.dels [2, 0]; clear S62
  have S9 := St.blkOwn (s := 1) (n := 1) (xs := [.int .i64 x.at_]) 0 S63 rfl rfl rfl (by decide)
  exact ⟨_, _, rfl, S9⟩
 ·have hl := hf
  simp [formL, hk] at hl
  subst hl
  have HW := fun w => ActWord_calls x w
  rw [show wordOf x.kd x.ek = ⟨#[108, 111, 115, 101]⟩ from by simp [wordOf, hk]] at HW
  refine wC_region (vv (ylr 0 S3 Tryd.underlying41 inf41) ?_)
  refine cab en23 S3 (HW _) ?_; intro w64 S65; clear S3
  refine qk [1, 2, 3, 5] ?_
  refine wQ_then (wC_block (wC_seq (wC_seq (wC_region (vv (v := .bool false) (y_binop rfl rfl rfl (r_seql (by kernel_rfl))) ?_)))))
  refine va ?_
  refine qk [1, 2, 3, 5, 6] ?_
  refine wQ_then (wC_cond_f rfl (wC_region (vv (v := .bool false) (y_binop rfl rfl rfl (r_seql (by kernel_rfl))) ?_)))
  refine va ?_
  refine qk [1, 2, 3, 5, 6] ?_
  refine wQ_then (wC_cond_f rfl (wC_seq (wC_seq (wC_region (vv (v := .bool false) (y_binop rfl rfl rfl (r_seql (by kernel_rfl))) ?_)))))
  refine va ?_
  refine qk [1, 2, 3, 5, 15] ?_
  refine wQ_then (wC_cond_f rfl (wC_region (vv (v := .bool false) (y_binop rfl rfl rfl (r_seql (by kernel_rfl))) ?_)))
  refine va ?_
  refine qk [1, 2, 3, 5, 15] ?_
  refine x_tnsr (vv (v := .bool false) (y_binop rfl rfl rfl (r_seql (by kernel_rfl))) ?_)
  refine va ?_
  refine qk [1, 2, 3, 5, 22] ?_
  refine wQ_then (wC_cond_f rfl (wC_seq (wC_seq (wC_region (vv (v := .bool false) (y_binop rfl rfl rfl (r_seql (by kernel_rfl))) ?_)))))
  refine va ?_
  refine qk [1, 2, 3, 5, 30] ?_
  refine x_tnsr (vv (v := .bool true) (y_binop rfl rfl rfl (r_seql (by kernel_rfl))) ?_)
  refine va ?_
  refine qk [1, 2, 3, 5, 30] ?_
  refine wQ_then (wC_cond_t rfl (wC_skip (wQ_then (wC_cond_t rfl (wC_seq (wC_region (vv (yfa 3 fa41_3) ?_)))))))
  refine vv (ylc 0 S65 Tryd.underlying3) ?_
  refine wL_new (V := fun b => .slice (some ⟨b, 0, none⟩) 1 1) (row := #[.int .i64 x.at_]) (t := 3) S65 (wn rfl) rfl rfl (d_buildSlice (vs := [(0, .int .i64 x.at_)]) rfl ⟨rfl, rfl, trivial⟩ (by kernel_rfl)) ?_; intro b67 w68 S69; clear S65
  refine wL_new (V := fun b => .slice (some ⟨b, 0, none⟩) 1 1) (row := #[.int .i64 1048576]) (t := 3) S69 (wn rfl) rfl rfl (d_buildSlice (vs := [(0, .int .i64 1048576)]) rfl ⟨rfl, rfl, trivial⟩ (by kernel_rfl)) ?_; intro b70 w71 S72; clear S69
  iterate 2 refine va ?_
  refine qk [2, 3] ?_
  refine x_tech (wQ_post (rs := [.tmp 2, .tmp 3]) (vs := [.slice (some ⟨b67, 0, none⟩) 1 1, .slice (some ⟨b70, 0, none⟩) 1 1]) rfl ⟨rfl, rfl, trivial⟩ ?_)
  have S73 : St _ _ _ [_] := S72.dels [2, 0]; clear S72
  have S9 := St.blkOwn (s := 1) (n := 1) (xs := [.int .i64 x.at_]) 0 S73 rfl rfl rfl (by decide)
  exact ⟨_, _, rfl, S9⟩
 ·have hl := hf
  simp [formL, hk] at hl
  subst hl
  have HW := fun w => ActWord_calls x w
  rw [show wordOf x.kd x.ek = ⟨#[100, 111, 117, 98, 108, 101]⟩ from by simp [wordOf, hk]] at HW
  refine wC_region (vv (ylr 0 S3 Tryd.underlying41 inf41) ?_)
  refine cab en23 S3 (HW _) ?_; intro w74 S75; clear S3
  refine qk [1, 2, 3, 5] ?_
  refine wQ_then (wC_block (wC_seq (wC_seq (wC_region (vv (v := .bool false) (y_binop rfl rfl rfl (r_seql (by kernel_rfl))) ?_)))))
  refine va ?_
  refine qk [1, 2, 3, 5, 6] ?_
  refine wQ_then (wC_cond_f rfl (wC_region (vv (v := .bool false) (y_binop rfl rfl rfl (r_seql (by kernel_rfl))) ?_)))
  refine va ?_
  refine qk [1, 2, 3, 5, 6] ?_
  refine wQ_then (wC_cond_f rfl (wC_seq (wC_seq (wC_region (vv (v := .bool false) (y_binop rfl rfl rfl (r_seql (by kernel_rfl))) ?_)))))
  refine va ?_
  refine qk [1, 2, 3, 5, 15] ?_
  refine wQ_then (wC_cond_f rfl (wC_region (vv (v := .bool false) (y_binop rfl rfl rfl (r_seql (by kernel_rfl))) ?_)))
  refine va ?_
  refine qk [1, 2, 3, 5, 15] ?_
  refine x_tnsr (vv (v := .bool false) (y_binop rfl rfl rfl (r_seql (by kernel_rfl))) ?_)
  refine va ?_
  refine qk [1, 2, 3, 5, 22] ?_
  refine wQ_then (wC_cond_f rfl (wC_seq (wC_seq (wC_region (vv (v := .bool false) (y_binop rfl rfl rfl (r_seql (by kernel_rfl))) ?_)))))
  refine va ?_
  refine qk [1, 2, 3, 5, 30] ?_
  refine x_tnsr (vv (v := .bool false) (y_binop rfl rfl rfl (r_seql (by kernel_rfl))) ?_)
  refine va ?_
  refine qk [1, 2, 3, 5, 30] ?_
  refine wQ_then (wC_cond_f rfl (wC_region (vv (v := .bool true) (y_binop rfl rfl rfl (r_seql (by kernel_rfl))) ?_)))
  refine va ?_
  refine qk [1, 2, 3, 5, 30] ?_
  refine x_tysr (vv (yfa 3 fa41_3) ?_)
  refine vv (ylc 0 S75 Tryd.underlying3) ?_
  refine wL_new (V := fun b => .slice (some ⟨b, 0, none⟩) 1 1) (row := #[.int .i64 x.at_]) (t := 3) S75 (wn rfl) rfl rfl (d_buildSlice (vs := [(0, .int .i64 x.at_)]) rfl ⟨rfl, rfl, trivial⟩ (by kernel_rfl)) ?_; intro b77 w78 S79; clear S75
  refine wL_new (V := fun b => .slice (some ⟨b, 0, none⟩) 1 1) (row := #[.int .i64 1048576]) (t := 3) S79 (wn rfl) rfl rfl (d_buildSlice (vs := [(0, .int .i64 1048576)]) rfl ⟨rfl, rfl, trivial⟩ (by kernel_rfl)) ?_; intro b80 w81 S82; clear S79
  iterate 2 refine va ?_
  refine qk [2, 3] ?_
  refine x_tech (wQ_post (rs := [.tmp 2, .tmp 3]) (vs := [.slice (some ⟨b77, 0, none⟩) 1 1, .slice (some ⟨b80, 0, none⟩) 1 1]) rfl ⟨rfl, rfl, trivial⟩ ?_)
  have S83 : St _ _ _ [_] := S82.dels [2, 0]; clear S82
  have S9 := St.blkOwn (s := 1) (n := 1) (xs := [.int .i64 x.at_]) 0 S83 rfl rfl rfl (by decide)
  exact ⟨_, _, rfl, S9⟩
 ·have hl := hf
  simp [formL, hk] at hl
  subst hl
  have HW := fun w => ActWord_calls x w
  rw [show wordOf x.kd x.ek = ⟨#[97, 108, 108]⟩ from by simp [wordOf, hk]] at HW
  refine wC_region (vv (ylr 0 S3 Tryd.underlying41 inf41) ?_)
  refine cab en23 S3 (HW _) ?_; intro w84 S85; clear S3
  refine qk [1, 2, 3, 5] ?_
  refine wQ_then (wC_block (wC_seq (wC_seq (wC_region (vv (v := .bool false) (y_binop rfl rfl rfl (r_seql (by kernel_rfl))) ?_)))))
  refine va ?_
  refine qk [1, 2, 3, 5, 6] ?_
  refine wQ_then (wC_cond_f rfl (wC_region (vv (v := .bool false) (y_binop rfl rfl rfl (r_seql (by kernel_rfl))) ?_)))
  refine va ?_
  refine qk [1, 2, 3, 5, 6] ?_
  refine wQ_then (wC_cond_f rfl (wC_seq (wC_seq (wC_region (vv (v := .bool false) (y_binop rfl rfl rfl (r_seql (by kernel_rfl))) ?_)))))
  refine va ?_
  refine qk [1, 2, 3, 5, 15] ?_
  refine wQ_then (wC_cond_f rfl (wC_region (vv (v := .bool false) (y_binop rfl rfl rfl (r_seql (by kernel_rfl))) ?_)))
  refine va ?_
  refine qk [1, 2, 3, 5, 15] ?_
  refine x_tnsr (vv (v := .bool false) (y_binop rfl rfl rfl (r_seql (by kernel_rfl))) ?_)
  refine va ?_
  refine qk [1, 2, 3, 5, 22] ?_
  refine wQ_then (wC_cond_f rfl (wC_seq (wC_seq (wC_region (vv (v := .bool false) (y_binop rfl rfl rfl (r_seql (by kernel_rfl))) ?_)))))
  refine va ?_
  refine qk [1, 2, 3, 5, 30] ?_
  refine x_tnsr (vv (v := .bool false) (y_binop rfl rfl rfl (r_seql (by kernel_rfl))) ?_)
  refine va ?_
  refine qk [1, 2, 3, 5, 30] ?_
  refine wQ_then (wC_cond_f rfl (wC_region (vv (v := .bool false) (y_binop rfl rfl rfl (r_seql (by kernel_rfl))) ?_)))
  refine va ?_
  refine qk [1, 2, 3, 5, 30] ?_
  refine x_tnsr (vv (v := .bool false) (y_binop rfl rfl rfl (r_seql (by kernel_rfl))) ?_)
  refine va ?_
  refine qk [1, 2, 3, 5, 38] ?_
  refine x_tnsr (vv (v := .bool false) (y_binop rfl rfl rfl (r_seql (by kernel_rfl))) ?_)
  refine va ?_
  refine qk [1, 2, 3, 5, 55] ?_
  refine x_tnsr (vv (v := .bool false) (y_binop rfl rfl rfl (r_seql (by kernel_rfl))) ?_)
  refine va ?_
  refine qk [1, 2, 3, 63] ?_
  refine wQ_then (wC_cond_f rfl (wC_skip (wQ_blk_n (wQ_then (wC_seq (wC_region (va ?_)))))))
  refine va ?_
  refine qk [2, 3] ?_
  refine x_te (wQ_post (rs := [.tmp 2, .tmp 3]) (vs := [.slice none 0 0, .slice none 0 0]) rfl ⟨rfl, rfl, trivial⟩ ?_)
  have S87 : St _ _ _ [] := S85.dels [0]; clear S85
  have S9 := S87.nil 3 1
  exact ⟨none, none, rfl, S9⟩
 ·have hl := hf
  simp [formL, hk, hek] at hl
  subst hl
  have HW := fun w => ActWord_calls x w
  rw [show wordOf x.kd x.ek = ⟨#[112, 117, 98, 108, 105, 115, 104]⟩ from by simp [wordOf, hk, hek]] at HW
  refine wC_region (vv (ylr 0 S3 Tryd.underlying41 inf41) ?_)
  refine cab en23 S3 (HW _) ?_; intro w88 S89; clear S3
  refine qk [1, 2, 3, 5] ?_
  refine wQ_then (wC_block (wC_seq (wC_seq (wC_region (vv (v := .bool false) (y_binop rfl rfl rfl (r_seql (by kernel_rfl))) ?_)))))
  refine va ?_
  refine qk [1, 2, 3, 5, 6] ?_
  refine wQ_then (wC_cond_f rfl (wC_region (vv (v := .bool false) (y_binop rfl rfl rfl (r_seql (by kernel_rfl))) ?_)))
  refine va ?_
  refine qk [1, 2, 3, 5, 6] ?_
  refine wQ_then (wC_cond_f rfl (wC_seq (wC_seq (wC_region (vv (v := .bool false) (y_binop rfl rfl rfl (r_seql (by kernel_rfl))) ?_)))))
  refine va ?_
  refine qk [1, 2, 3, 5, 15] ?_
  refine wQ_then (wC_cond_f rfl (wC_region (vv (v := .bool false) (y_binop rfl rfl rfl (r_seql (by kernel_rfl))) ?_)))
  refine va ?_
  refine qk [1, 2, 3, 5, 15] ?_
  refine x_tnsr (vv (v := .bool false) (y_binop rfl rfl rfl (r_seql (by kernel_rfl))) ?_)
  refine va ?_
  refine qk [1, 2, 3, 5, 22] ?_
  refine wQ_then (wC_cond_f rfl (wC_seq (wC_seq (wC_region (vv (v := .bool false) (y_binop rfl rfl rfl (r_seql (by kernel_rfl))) ?_)))))
  refine va ?_
  refine qk [1, 2, 3, 5, 30] ?_
  refine x_tnsr (vv (v := .bool false) (y_binop rfl rfl rfl (r_seql (by kernel_rfl))) ?_)
  refine va ?_
  refine qk [1, 2, 3, 5, 30] ?_
  refine wQ_then (wC_cond_f rfl (wC_region (vv (v := .bool false) (y_binop rfl rfl rfl (r_seql (by kernel_rfl))) ?_)))
  refine va ?_
  refine qk [1, 2, 3, 5, 30] ?_
  refine x_tnsr (vv (v := .bool true) (y_binop rfl rfl rfl (r_seql (by kernel_rfl))) ?_)
  refine va ?_
  refine qk [1, 2, 3, 5, 38] ?_
  refine x_tysr (vv (yfa 1 fa41_1) ?_)
  refine vv (ylc 0 S89 Tryd.underlying3) ?_
  refine vv (yfa 2 fa41_2) ?_
  refine vv (ylc 0 S89 Tryd.underlying3) ?_
  refine vv (yfa 5 fa41_5) ?_
  refine vv (yfa 6 fa39_1) ?_
  refine vv (ylc 0 S89 Tryd.underlying3) ?_
  refine vv (yfa 5 fa41_5) ?_
  refine vv (yfa 7 fa39_2) ?_
  refine vv (ylc 0 S89 Tryd.underlying3) ?_
  refine vv (yfa 5 fa41_5) ?_
  refine vv (yfa 8 fa39_3) ?_
  refine vv (ylc 0 S89 Tryd.underlying3) ?_
  refine wL_new (V := fun b => .slice (some ⟨b, 0, none⟩) 5 5) (row := #[.int .i64 x.nd, .int .i64 x.qu, .int .i64 x.ep, .int .i64 x.ei, .int .i64 x.eb]) (t := 3) S89 (wn rfl) rfl rfl (d_buildSlice (vs := [(0, .int .i64 x.nd), (1, .int .i64 x.qu), (2, .int .i64 x.ep), (3, .int .i64 x.ei), (4, .int .i64 x.eb)]) rfl ⟨rfl, rfl, rfl, rfl, rfl, rfl, rfl, rfl, rfl, rfl, trivial⟩ (by kernel_rfl)) ?_; intro b91 w92 S93; clear S89
  refine wL_new (V := fun b => .slice (some ⟨b, 0, none⟩) 5 5) (row := #[.int .i64 4, .int .i64 3, .int .i64 3, .int .i64 1073741824, .int .i64 1000000]) (t := 3) S93 (wn rfl) rfl rfl (d_buildSlice (vs := [(0, .int .i64 4), (1, .int .i64 3), (2, .int .i64 3), (3, .int .i64 1073741824), (4, .int .i64 1000000)]) rfl ⟨rfl, rfl, rfl, rfl, rfl, rfl, rfl, rfl, rfl, rfl, trivial⟩ (by kernel_rfl)) ?_; intro b94 w95 S96; clear S93
  iterate 2 refine va ?_
  refine qk [2, 3] ?_
  refine x_tech (wQ_post (rs := [.tmp 2, .tmp 3]) (vs := [.slice (some ⟨b91, 0, none⟩) 5 5, .slice (some ⟨b94, 0, none⟩) 5 5]) rfl ⟨rfl, rfl, trivial⟩ ?_)
  have S97 : St _ _ _ [_] := S96.dels [2, 0]; clear S96
  have S9 := St.blkOwn (s := 1) (n := 5) (xs := [.int .i64 x.nd, .int .i64 x.qu, .int .i64 x.ep, .int .i64 x.ei, .int .i64 x.eb]) 0 S97 rfl rfl rfl (by decide)
  exact ⟨_, _, rfl, S9⟩
 ·have hl := hf
  simp [formL, hk, hek] at hl
  subst hl
  have HW := fun w => ActWord_calls x w
  rw [show wordOf x.kd x.ek = ⟨#[114, 101, 99, 101, 105, 118, 101]⟩ from by simp [wordOf, hk, hek]] at HW
  refine wC_region (vv (ylr 0 S3 Tryd.underlying41 inf41) ?_)
  refine cab en23 S3 (HW _) ?_; intro w98 S99; clear S3
  refine qk [1, 2, 3, 5] ?_
  refine wQ_then (wC_block (wC_seq (wC_seq (wC_region (vv (v := .bool false) (y_binop rfl rfl rfl (r_seql (by kernel_rfl))) ?_)))))
  refine va ?_
  refine qk [1, 2, 3, 5, 6] ?_
  refine wQ_then (wC_cond_f rfl (wC_region (vv (v := .bool false) (y_binop rfl rfl rfl (r_seql (by kernel_rfl))) ?_)))
  refine va ?_
  refine qk [1, 2, 3, 5, 6] ?_
  refine wQ_then (wC_cond_f rfl (wC_seq (wC_seq (wC_region (vv (v := .bool false) (y_binop rfl rfl rfl (r_seql (by kernel_rfl))) ?_)))))
  refine va ?_
  refine qk [1, 2, 3, 5, 15] ?_
  refine wQ_then (wC_cond_f rfl (wC_region (vv (v := .bool false) (y_binop rfl rfl rfl (r_seql (by kernel_rfl))) ?_)))
  refine va ?_
  refine qk [1, 2, 3, 5, 15] ?_
  refine x_tnsr (vv (v := .bool false) (y_binop rfl rfl rfl (r_seql (by kernel_rfl))) ?_)
  refine va ?_
  refine qk [1, 2, 3, 5, 22] ?_
  refine wQ_then (wC_cond_f rfl (wC_seq (wC_seq (wC_region (vv (v := .bool false) (y_binop rfl rfl rfl (r_seql (by kernel_rfl))) ?_)))))
  refine va ?_
  refine qk [1, 2, 3, 5, 30] ?_
  refine x_tnsr (vv (v := .bool false) (y_binop rfl rfl rfl (r_seql (by kernel_rfl))) ?_)
  refine va ?_
  refine qk [1, 2, 3, 5, 30] ?_
  refine wQ_then (wC_cond_f rfl (wC_region (vv (v := .bool false) (y_binop rfl rfl rfl (r_seql (by kernel_rfl))) ?_)))
  refine va ?_
  refine qk [1, 2, 3, 5, 30] ?_
  refine x_tnsr (vv (v := .bool false) (y_binop rfl rfl rfl (r_seql (by kernel_rfl))) ?_)
  refine va ?_
  refine qk [1, 2, 3, 5, 38] ?_
  refine x_tnsr (vv (v := .bool true) (y_binop rfl rfl rfl (r_seql (by kernel_rfl))) ?_)
  refine va ?_
  refine qk [1, 2, 3, 5, 55] ?_
  refine x_tysr (vv (yfa 1 fa41_1) ?_)
  refine vv (ylc 0 S99 Tryd.underlying3) ?_
  refine vv (yfa 2 fa41_2) ?_
  refine vv (ylc 0 S99 Tryd.underlying3) ?_
  refine wL_new (V := fun b => .slice (some ⟨b, 0, none⟩) 2 2) (row := #[.int .i64 x.nd, .int .i64 x.qu]) (t := 3) S99 (wn rfl) rfl rfl (d_buildSlice (vs := [(0, .int .i64 x.nd), (1, .int .i64 x.qu)]) rfl ⟨rfl, rfl, rfl, rfl, trivial⟩ (by kernel_rfl)) ?_; intro b101 w102 S103; clear S99
  refine wL_new (V := fun b => .slice (some ⟨b, 0, none⟩) 2 2) (row := #[.int .i64 4, .int .i64 3]) (t := 3) S103 (wn rfl) rfl rfl (d_buildSlice (vs := [(0, .int .i64 4), (1, .int .i64 3)]) rfl ⟨rfl, rfl, rfl, rfl, trivial⟩ (by kernel_rfl)) ?_; intro b104 w105 S106; clear S103
  iterate 2 refine va ?_
  refine qk [2, 3] ?_
  refine x_tech (wQ_post (rs := [.tmp 2, .tmp 3]) (vs := [.slice (some ⟨b101, 0, none⟩) 2 2, .slice (some ⟨b104, 0, none⟩) 2 2]) rfl ⟨rfl, rfl, trivial⟩ ?_)
  have S107 : St _ _ _ [_] := S106.dels [2, 0]; clear S106
  have S9 := St.blkOwn (s := 1) (n := 2) (xs := [.int .i64 x.nd, .int .i64 x.qu]) 0 S107 rfl rfl rfl (by decide)
  exact ⟨_, _, rfl, S9⟩
 ·have hl := hf
  simp [formL, hk, hek] at hl
  subst hl
  have HW := fun w => ActWord_calls x w
  rw [show wordOf x.kd x.ek = ⟨#[97, 99, 107]⟩ from by simp [wordOf, hk, hek]] at HW
  refine wC_region (vv (ylr 0 S3 Tryd.underlying41 inf41) ?_)
  refine cab en23 S3 (HW _) ?_; intro w108 S109; clear S3
  refine qk [1, 2, 3, 5] ?_
  refine wQ_then (wC_block (wC_seq (wC_seq (wC_region (vv (v := .bool false) (y_binop rfl rfl rfl (r_seql (by kernel_rfl))) ?_)))))
  refine va ?_
  refine qk [1, 2, 3, 5, 6] ?_
  refine wQ_then (wC_cond_f rfl (wC_region (vv (v := .bool false) (y_binop rfl rfl rfl (r_seql (by kernel_rfl))) ?_)))
  refine va ?_
  refine qk [1, 2, 3, 5, 6] ?_
  refine wQ_then (wC_cond_f rfl (wC_seq (wC_seq (wC_region (vv (v := .bool false) (y_binop rfl rfl rfl (r_seql (by kernel_rfl))) ?_)))))
  refine va ?_
  refine qk [1, 2, 3, 5, 15] ?_
  refine wQ_then (wC_cond_f rfl (wC_region (vv (v := .bool false) (y_binop rfl rfl rfl (r_seql (by kernel_rfl))) ?_)))
  refine va ?_
  refine qk [1, 2, 3, 5, 15] ?_
  refine x_tnsr (vv (v := .bool false) (y_binop rfl rfl rfl (r_seql (by kernel_rfl))) ?_)
  refine va ?_
  refine qk [1, 2, 3, 5, 22] ?_
  refine wQ_then (wC_cond_f rfl (wC_seq (wC_seq (wC_region (vv (v := .bool false) (y_binop rfl rfl rfl (r_seql (by kernel_rfl))) ?_)))))
  refine va ?_
  refine qk [1, 2, 3, 5, 30] ?_
  refine x_tnsr (vv (v := .bool false) (y_binop rfl rfl rfl (r_seql (by kernel_rfl))) ?_)
  refine va ?_
  refine qk [1, 2, 3, 5, 30] ?_
  refine wQ_then (wC_cond_f rfl (wC_region (vv (v := .bool false) (y_binop rfl rfl rfl (r_seql (by kernel_rfl))) ?_)))
  refine va ?_
  refine qk [1, 2, 3, 5, 30] ?_
  refine x_tnsr (vv (v := .bool false) (y_binop rfl rfl rfl (r_seql (by kernel_rfl))) ?_)
  refine va ?_
  refine qk [1, 2, 3, 5, 38] ?_
  refine x_tnsr (vv (v := .bool false) (y_binop rfl rfl rfl (r_seql (by kernel_rfl))) ?_)
  refine va ?_
  refine qk [1, 2, 3, 5, 55] ?_
  refine x_tnsr (vv (v := .bool true) (y_binop rfl rfl rfl (r_seql (by kernel_rfl))) ?_)
  refine va ?_
  refine qk [1, 2, 3, 63] ?_
  refine x_tysr (vv (yfa 1 fa41_1) ?_)
  refine vv (ylc 0 S109 Tryd.underlying3) ?_
  refine vv (yfa 2 fa41_2) ?_
  refine vv (ylc 0 S109 Tryd.underlying3) ?_
  refine vv (yfa 5 fa41_5) ?_
  refine vv (yfa 9 fa39_4) ?_
  refine vv (yfa 9 fa37_0) ?_
  refine vv (ylc 0 S109 Tryd.underlying3) ?_
  refine vv (yfa 5 fa41_5) ?_
  refine vv (yfa 9 fa39_4) ?_
  refine vv (yfa 10 fa37_1) ?_
  refine vv (ylc 0 S109 Tryd.underlying3) ?_
  refine wL_new (V := fun b => .slice (some ⟨b, 0, none⟩) 4 4) (row := #[.int .i64 x.nd, .int .i64 x.qu, .int .i64 x.eh, .int .i64 x.en]) (t := 3) S109 (wn rfl) rfl rfl (d_buildSlice (vs := [(0, .int .i64 x.nd), (1, .int .i64 x.qu), (2, .int .i64 x.eh), (3, .int .i64 x.en)]) rfl ⟨rfl, rfl, rfl, rfl, rfl, rfl, rfl, rfl, trivial⟩ (by kernel_rfl)) ?_; intro b111 w112 S113; clear S109
  refine wL_new (V := fun b => .slice (some ⟨b, 0, none⟩) 4 4) (row := #[.int .i64 4, .int .i64 3, .int .i64 1048576, .int .i64 1073741824]) (t := 3) S113 (wn rfl) rfl rfl (d_buildSlice (vs := [(0, .int .i64 4), (1, .int .i64 3), (2, .int .i64 1048576), (3, .int .i64 1073741824)]) rfl ⟨rfl, rfl, rfl, rfl, rfl, rfl, rfl, rfl, trivial⟩ (by kernel_rfl)) ?_; intro b114 w115 S116; clear S113
  iterate 2 refine va ?_
  refine qk [2, 3] ?_
  refine x_tech (wQ_post (rs := [.tmp 2, .tmp 3]) (vs := [.slice (some ⟨b111, 0, none⟩) 4 4, .slice (some ⟨b114, 0, none⟩) 4 4]) rfl ⟨rfl, rfl, trivial⟩ ?_)
  have S117 : St _ _ _ [_] := S116.dels [2, 0]; clear S116
  have S9 := St.blkOwn (s := 1) (n := 4) (xs := [.int .i64 x.nd, .int .i64 x.qu, .int .i64 x.eh, .int .i64 x.en]) 0 S117 rfl rfl rfl (by decide)
  exact ⟨_, _, rfl, S9⟩
 ·rw [hn] at hf; cases hf

set_option maxRecDepth 100000 in
set_option maxHeartbeats 8000000 in
theorem actOfB_calls (x : Ac) (l : List (Nat × Int)) (hf : formL x.kd x.ek = some l) (A : Option Addr) (c : Nat) (w : World) (h : Rd w w.heap.size 1 A l.length (l.flatMap (valC x))) :
    Calls Tryd.prog 26 #[.agg #[.int .i64 x.kd, .int .i64 0, .int .i64 0, .int .i64 0, .int .i64 0, .int .i64 x.ek, .int .i64 0, .int .i64 0, .int .i64 0, .int .i64 0, .int .i64 0], .slice A l.length c] w (AcPost w (keep x)) := by
 have S := (St.start w).addRd h; clear h
 refine fnw 99 Tryd.func26 ?_
 refine cw [0, 1] ?_
 refine x_sr (nb (row := #[.int .i64 x.kd, .int .i64 0, .int .i64 0, .int .i64 0, .int .i64 0, .int .i64 x.ek, .int .i64 0, .int .i64 0, .int .i64 0, .int .i64 0, .int .i64 0]) S ?_); intro b1 w2 S3; clear S
 refine na (row := #[.int .i64 0, .int .i64 0, .int .i64 0, .int .i64 0, .int .i64 0, .int .i64 0, .int .i64 0, .int .i64 0, .int .i64 0, .int .i64 0, .int .i64 0]) S3 Tryd.zeroValue41 ?_; intro b4 w5 S6; clear S3
 refine qk [1, 2, 4] ?_
 refine x_tsr (vv (yfa 0 fa41_0) ?_)
 refine vv (ylc 1 S6 Tryd.underlying3) ?_
 refine vv (yfa 5 fa41_5) ?_
 refine vv (yfa 5 fa39_0) ?_
 refine vv (ylc 1 S6 Tryd.underlying3) ?_
 refine vv (v := .agg #[.int .i64 x.ek, .int .i64 0, .int .i64 0, .int .i64 0, .int .i64 0, .int .i64 0]) (y_build (vs := [(0, .int .i64 x.ek)]) rfl ⟨rfl, rfl, trivial⟩ (by kernel_rfl)) ?_
 refine vv (v := .agg #[.int .i64 x.kd, .int .i64 0, .int .i64 0, .int .i64 0, .int .i64 0, .int .i64 x.ek, .int .i64 0, .int .i64 0, .int .i64 0, .int .i64 0, .int .i64 0]) (y_build (vs := [(0, .int .i64 x.kd), (5, .agg #[.int .i64 x.ek, .int .i64 0, .int .i64 0, .int .i64 0, .int .i64 0, .int .i64 0])]) rfl ⟨rfl, rfl, rfl, rfl, trivial⟩ (by kernel_rfl)) ?_
 refine na (row := #[.int .i64 0, .int .i64 0, .int .i64 0, .int .i64 0, .int .i64 0, .int .i64 0, .int .i64 0, .int .i64 0, .int .i64 0, .int .i64 0, .int .i64 0]) S6 Tryd.zeroValue41 ?_; intro b7 w8 S9; clear S6
 refine sa 0 S9 inf41 ?_; intro w10 S11; clear S9
 refine qk [1, 2, 4, 5] ?_
 refine wQ_then (wC_seq (wC_seq ?_))
 rcases kinds x.kd x.ek with hk | hk | hk | hk | hk | hk | hk | hk | hk | ⟨hk, hek⟩ | ⟨hk, hek⟩ | ⟨hk, hek⟩ | hn
 ·have hl := hf
  simp [formL, hk] at hl
  subst hl
  have HW := fun w => ActWord_calls (bareA (x.kd, x.ek)) w
  rw [show wordOf (bareA (x.kd, x.ek)).kd (bareA (x.kd, x.ek)).ek = ⟨#[109, 97, 107, 101]⟩ from by simp [wordOf, bareA, hk]] at HW
  refine wC_region (vv (ylr 2 S11 Tryd.underlying41 inf41) ?_)
  refine cab en23 S11 (HW _) ?_; intro w12 S13; clear S11
  refine qk [1, 2, 4, 5, 14] ?_
  refine wQ_then (wC_block (wC_seq (wC_seq (wC_region (vv (v := .bool true) (y_binop rfl rfl rfl (r_seql (by kernel_rfl))) ?_)))))
  refine va ?_
  refine qk [1, 2, 4, 5, 14, 15] ?_
  refine wQ_then (wC_cond_t rfl (wC_skip (wQ_then (wC_cond_t rfl (wC_seq (wC_region (vm ?_)))))))
  obtain ⟨b15, o16, rfl⟩ := Rd.addr (St.rd 3 S13 rfl) (by decide)
  refine vv (v := .pointer (some ⟨b15, o16 + 0, none⟩)) (y_indexAddr rfl rfl rfl (r_indexAddr 0 Tryd.underlying62 inf3 rfl (by decide))) ?_
  refine vv (v := .int .i64 x.qu) (y_load rfl rfl (r_load Tryd.underlying3 rfl (Rd.cl (j := 0) (St.rd 3 S13 rfl) rfl))) ?_
  refine vv (yfa 2 fa41_2) ?_
  refine sr (row' := #[.int .i64 x.kd, .int .i64 0, .int .i64 x.qu, .int .i64 0, .int .i64 0, .int .i64 x.ek, .int .i64 0, .int .i64 0, .int .i64 0, .int .i64 0, .int .i64 0]) 0 S13 inf3 ?_; intro w17 S18; clear S13
  refine qk [1, 2, 4, 5] ?_
  refine x_tr (vm ?_)
  refine vv (v := .pointer (some ⟨b15, o16 + 1, none⟩)) (y_indexAddr rfl rfl rfl (r_indexAddr 1 Tryd.underlying62 inf3 rfl (by decide))) ?_
  refine vv (v := .int .i64 x.nd) (y_load rfl rfl (r_load Tryd.underlying3 rfl (Rd.cl (j := 1) (St.rd 3 S18 rfl) rfl))) ?_
  refine vv (yfa 1 fa41_1) ?_
  refine sr (row' := #[.int .i64 x.kd, .int .i64 x.nd, .int .i64 x.qu, .int .i64 0, .int .i64 0, .int .i64 x.ek, .int .i64 0, .int .i64 0, .int .i64 0, .int .i64 0, .int .i64 0]) 0 S18 inf3 ?_; intro w19 S20; clear S18
  refine qk [1, 2, 4, 5] ?_
  refine x_utssr (vv (ylr 2 S20 Tryd.underlying41 inf41) ?_)
  refine cab en23 S20 (HW _) ?_; intro w21 S22; clear S20
  refine vv (v := .bool false) (y_binop rfl rfl rfl (r_seql (by kernel_rfl))) ?_
  refine qk [1, 2, 4, 5, 65] ?_
  refine x_tnktssr (vv (ylr 2 S22 Tryd.underlying41 inf41) ?_)
  refine cab en23 S22 (HW _) ?_; intro w24 S25; clear S22
  refine vv (v := .bool false) (y_binop rfl rfl rfl (r_seql (by kernel_rfl))) ?_
  refine qk [1, 4, 5, 83] ?_
  refine x_tnktssr (vv (yfa 0 fa41_0) ?_)
  refine vv (ylc 0 S25 Tryd.underlying3) ?_
  refine vv (dneqT (h := by omega)) ?_
  refine qk [4, 5, 95] ?_
  refine wQ_then (wC_cond_t rfl (wC_region (vv (yfa 5 fa41_5) ?_)))
  refine vv (yfa 5 fa39_0) ?_
  refine sr (row' := #[.int .i64 x.kd, .int .i64 x.nd, .int .i64 x.qu, .int .i64 0, .int .i64 0, .int .i64 0, .int .i64 0, .int .i64 0, .int .i64 0, .int .i64 0, .int .i64 0]) 0 S25 inf3 ?_; intro w27 S28; clear S25
  refine qk [4, 5] ?_
  refine x_tsr (vv (ylr 0 S28 Tryd.underlying41 inf41) ?_)
  refine sa 1 S28 inf41 ?_; intro w29 S30; clear S28
  refine qk [4] ?_
  refine x_te (wQ_post (rs := [.cell 4 41]) (vs := [.agg #[.int .i64 x.kd, .int .i64 x.nd, .int .i64 x.qu, .int .i64 0, .int .i64 0, .int .i64 0, .int .i64 0, .int .i64 0, .int .i64 0, .int .i64 0, .int .i64 0]]) rfl ⟨⟨_, rfl, res_row 1 S30 rfl Tryd.underlying41 rfl inf41⟩, trivial⟩ ?_)
  rw [show keep x = ⟨x.kd, x.nd, x.qu, 0, 0, 0, 0, 0, 0, 0, 0⟩ from by simp [keep, hk]]
  exact ⟨rfl, S30.low⟩
 ·have hl := hf
  simp [formL, hk] at hl
  subst hl
  have HW := fun w => ActWord_calls (bareA (x.kd, x.ek)) w
  rw [show wordOf (bareA (x.kd, x.ek)).kd (bareA (x.kd, x.ek)).ek = ⟨#[109, 111, 118, 101]⟩ from by simp [wordOf, bareA, hk]] at HW
  refine wC_region (vv (ylr 2 S11 Tryd.underlying41 inf41) ?_)
  refine cab en23 S11 (HW _) ?_; intro w31 S32; clear S11
  refine qk [1, 2, 4, 5, 14] ?_
  refine wQ_then (wC_block (wC_seq (wC_seq (wC_region (vv (v := .bool false) (y_binop rfl rfl rfl (r_seql (by kernel_rfl))) ?_)))))
  refine va ?_
  refine qk [1, 2, 4, 5, 14, 15] ?_
  refine wQ_then (wC_cond_f rfl (wC_region (vv (v := .bool true) (y_binop rfl rfl rfl (r_seql (by kernel_rfl))) ?_)))
  refine va ?_
  refine qk [1, 2, 4, 5, 14, 15] ?_
  refine x_tysr (vm ?_)
  obtain ⟨b34, o35, rfl⟩ := Rd.addr (St.rd 3 S32 rfl) (by decide)
  refine vv (v := .pointer (some ⟨b34, o35 + 0, none⟩)) (y_indexAddr rfl rfl rfl (r_indexAddr 0 Tryd.underlying62 inf3 rfl (by decide))) ?_
  refine vv (v := .int .i64 x.qu) (y_load rfl rfl (r_load Tryd.underlying3 rfl (Rd.cl (j := 0) (St.rd 3 S32 rfl) rfl))) ?_
  refine vv (yfa 2 fa41_2) ?_
  refine sr (row' := #[.int .i64 x.kd, .int .i64 0, .int .i64 x.qu, .int .i64 0, .int .i64 0, .int .i64 x.ek, .int .i64 0, .int .i64 0, .int .i64 0, .int .i64 0, .int .i64 0]) 0 S32 inf3 ?_; intro w36 S37; clear S32
  refine qk [1, 2, 4, 5] ?_
  refine x_tr (vm ?_)
  refine vv (v := .pointer (some ⟨b34, o35 + 1, none⟩)) (y_indexAddr rfl rfl rfl (r_indexAddr 1 Tryd.underlying62 inf3 rfl (by decide))) ?_
  refine vv (v := .int .i64 x.nd) (y_load rfl rfl (r_load Tryd.underlying3 rfl (Rd.cl (j := 1) (St.rd 3 S37 rfl) rfl))) ?_
  refine vv (yfa 1 fa41_1) ?_
  refine sr (row' := #[.int .i64 x.kd, .int .i64 x.nd, .int .i64 x.qu, .int .i64 0, .int .i64 0, .int .i64 x.ek, .int .i64 0, .int .i64 0, .int .i64 0, .int .i64 0, .int .i64 0]) 0 S37 inf3 ?_; intro w38 S39; clear S37
  refine qk [1, 2, 4, 5] ?_
  refine x_utssr (vv (ylr 2 S39 Tryd.underlying41 inf41) ?_)
  refine cab en23 S39 (HW _) ?_; intro w40 S41; clear S39
  refine vv (v := .bool false) (y_binop rfl rfl rfl (r_seql (by kernel_rfl))) ?_
  refine qk [1, 2, 4, 5, 65] ?_
  refine x_tnktssr (vv (ylr 2 S41 Tryd.underlying41 inf41) ?_)
  refine cab en23 S41 (HW _) ?_; intro w43 S44; clear S41
  refine vv (v := .bool false) (y_binop rfl rfl rfl (r_seql (by kernel_rfl))) ?_
  refine qk [1, 4, 5, 83] ?_
  refine x_tnktssr (vv (yfa 0 fa41_0) ?_)
  refine vv (ylc 0 S44 Tryd.underlying3) ?_
  refine vv (dneqT (h := by omega)) ?_
  refine qk [4, 5, 95] ?_
  refine wQ_then (wC_cond_t rfl (wC_region (vv (yfa 5 fa41_5) ?_)))
  refine vv (yfa 5 fa39_0) ?_
  refine sr (row' := #[.int .i64 x.kd, .int .i64 x.nd, .int .i64 x.qu, .int .i64 0, .int .i64 0, .int .i64 0, .int .i64 0, .int .i64 0, .int .i64 0, .int .i64 0, .int .i64 0]) 0 S44 inf3 ?_; intro w46 S47; clear S44
  refine qk [4, 5] ?_
  refine x_tsr (vv (ylr 0 S47 Tryd.underlying41 inf41) ?_)
  refine sa 1 S47 inf41 ?_; intro w48 S49; clear S47
  refine qk [4] ?_
  refine x_te (wQ_post (rs := [.cell 4 41]) (vs := [.agg #[.int .i64 x.kd, .int .i64 x.nd, .int .i64 x.qu, .int .i64 0, .int .i64 0, .int .i64 0, .int .i64 0, .int .i64 0, .int .i64 0, .int .i64 0, .int .i64 0]]) rfl ⟨⟨_, rfl, res_row 1 S49 rfl Tryd.underlying41 rfl inf41⟩, trivial⟩ ?_)
  rw [show keep x = ⟨x.kd, x.nd, x.qu, 0, 0, 0, 0, 0, 0, 0, 0⟩ from by simp [keep, hk]]
  exact ⟨rfl, S49.low⟩
 ·have hl := hf
  simp [formL, hk] at hl
  subst hl
  have HW := fun w => ActWord_calls (bareA (x.kd, x.ek)) w
  rw [show wordOf (bareA (x.kd, x.ek)).kd (bareA (x.kd, x.ek)).ek = ⟨#[115, 116, 101, 112]⟩ from by simp [wordOf, bareA, hk]] at HW
  refine wC_region (vv (ylr 2 S11 Tryd.underlying41 inf41) ?_)
  refine cab en23 S11 (HW _) ?_; intro w50 S51; clear S11
  refine qk [1, 2, 4, 5, 14] ?_
  refine wQ_then (wC_block (wC_seq (wC_seq (wC_region (vv (v := .bool false) (y_binop rfl rfl rfl (r_seql (by kernel_rfl))) ?_)))))
  refine va ?_
  refine qk [1, 2, 4, 5, 14, 15] ?_
  refine wQ_then (wC_cond_f rfl (wC_region (vv (v := .bool false) (y_binop rfl rfl rfl (r_seql (by kernel_rfl))) ?_)))
  refine va ?_
  refine qk [1, 2, 4, 5, 14, 15] ?_
  refine wQ_then (wC_cond_f rfl (wC_seq (wC_seq (wC_region (vv (v := .bool true) (y_binop rfl rfl rfl (r_seql (by kernel_rfl))) ?_)))))
  refine va ?_
  refine qk [1, 2, 4, 5, 14, 26] ?_
  refine wQ_then (wC_cond_t rfl (wC_skip (wQ_then (wC_cond_t rfl (wC_region (vm ?_))))))
  obtain ⟨b53, o54, rfl⟩ := Rd.addr (St.rd 3 S51 rfl) (by decide)
  refine vv (v := .pointer (some ⟨b53, o54 + 0, none⟩)) (y_indexAddr rfl rfl rfl (r_indexAddr 0 Tryd.underlying62 inf3 rfl (by decide))) ?_
  refine vv (v := .int .i64 x.nd) (y_load rfl rfl (r_load Tryd.underlying3 rfl (Rd.cl (j := 0) (St.rd 3 S51 rfl) rfl))) ?_
  refine vv (yfa 1 fa41_1) ?_
  refine sr (row' := #[.int .i64 x.kd, .int .i64 x.nd, .int .i64 0, .int .i64 0, .int .i64 0, .int .i64 x.ek, .int .i64 0, .int .i64 0, .int .i64 0, .int .i64 0, .int .i64 0]) 0 S51 inf3 ?_; intro w55 S56; clear S51
  refine qk [1, 2, 4, 5] ?_
  refine x_utssr (vv (ylr 2 S56 Tryd.underlying41 inf41) ?_)
  refine cab en23 S56 (HW _) ?_; intro w57 S58; clear S56
  refine vv (v := .bool false) (y_binop rfl rfl rfl (r_seql (by kernel_rfl))) ?_
  refine qk [1, 2, 4, 5, 65] ?_
  refine x_tnktssr (vv (ylr 2 S58 Tryd.underlying41 inf41) ?_)
  refine cab en23 S58 (HW _) ?_; intro w60 S61; clear S58
  refine vv (v := .bool false) (y_binop rfl rfl rfl (r_seql (by kernel_rfl))) ?_
  refine qk [1, 4, 5, 83] ?_
  refine x_tnktssr (vv (yfa 0 fa41_0) ?_)
  refine vv (ylc 0 S61 Tryd.underlying3) ?_
  refine vv (dneqT (h := by omega)) ?_
  refine qk [4, 5, 95] ?_
  refine wQ_then (wC_cond_t rfl (wC_region (vv (yfa 5 fa41_5) ?_)))
  refine vv (yfa 5 fa39_0) ?_
  refine sr (row' := #[.int .i64 x.kd, .int .i64 x.nd, .int .i64 0, .int .i64 0, .int .i64 0, .int .i64 0, .int .i64 0, .int .i64 0, .int .i64 0, .int .i64 0, .int .i64 0]) 0 S61 inf3 ?_; intro w63 S64; clear S61
  refine qk [4, 5] ?_
  refine x_tsr (vv (ylr 0 S64 Tryd.underlying41 inf41) ?_)
  refine sa 1 S64 inf41 ?_; intro w65 S66; clear S64
  refine qk [4] ?_
  refine x_te (wQ_post (rs := [.cell 4 41]) (vs := [.agg #[.int .i64 x.kd, .int .i64 x.nd, .int .i64 0, .int .i64 0, .int .i64 0, .int .i64 0, .int .i64 0, .int .i64 0, .int .i64 0, .int .i64 0, .int .i64 0]]) rfl ⟨⟨_, rfl, res_row 1 S66 rfl Tryd.underlying41 rfl inf41⟩, trivial⟩ ?_)
  rw [show keep x = ⟨x.kd, x.nd, 0, 0, 0, 0, 0, 0, 0, 0, 0⟩ from by simp [keep, hk]]
  exact ⟨rfl, S66.low⟩
 ·have hl := hf
  simp [formL, hk] at hl
  subst hl
  have HW := fun w => ActWord_calls (bareA (x.kd, x.ek)) w
  rw [show wordOf (bareA (x.kd, x.ek)).kd (bareA (x.kd, x.ek)).ek = ⟨#[115, 116, 97, 114, 116]⟩ from by simp [wordOf, bareA, hk]] at HW
  refine wC_region (vv (ylr 2 S11 Tryd.underlying41 inf41) ?_)
  refine cab en23 S11 (HW _) ?_; intro w67 S68; clear S11
  refine qk [1, 2, 4, 5, 14] ?_
  refine wQ_then (wC_block (wC_seq (wC_seq (wC_region (vv (v := .bool false) (y_binop rfl rfl rfl (r_seql (by kernel_rfl))) ?_)))))
  refine va ?_
  refine qk [1, 2, 4, 5, 14, 15] ?_
  refine wQ_then (wC_cond_f rfl (wC_region (vv (v := .bool false) (y_binop rfl rfl rfl (r_seql (by kernel_rfl))) ?_)))
  refine va ?_
  refine qk [1, 2, 4, 5, 14, 15] ?_
  refine wQ_then (wC_cond_f rfl (wC_seq (wC_seq (wC_region (vv (v := .bool false) (y_binop rfl rfl rfl (r_seql (by kernel_rfl))) ?_)))))
  refine va ?_
  refine qk [1, 2, 4, 5, 14, 26] ?_
  refine wQ_then (wC_cond_f rfl (wC_region (vv (v := .bool true) (y_binop rfl rfl rfl (r_seql (by kernel_rfl))) ?_)))
  refine va ?_
  refine qk [1, 2, 4, 5, 14, 26] ?_
  refine wQ_then (wC_cond_t rfl (wC_region (vm ?_)))
  obtain ⟨b70, o71, rfl⟩ := Rd.addr (St.rd 3 S68 rfl) (by decide)
  refine vv (v := .pointer (some ⟨b70, o71 + 0, none⟩)) (y_indexAddr rfl rfl rfl (r_indexAddr 0 Tryd.underlying62 inf3 rfl (by decide))) ?_
  refine vv (v := .int .i64 x.nd) (y_load rfl rfl (r_load Tryd.underlying3 rfl (Rd.cl (j := 0) (St.rd 3 S68 rfl) rfl))) ?_
  refine vv (yfa 1 fa41_1) ?_
  refine sr (row' := #[.int .i64 x.kd, .int .i64 x.nd, .int .i64 0, .int .i64 0, .int .i64 0, .int .i64 x.ek, .int .i64 0, .int .i64 0, .int .i64 0, .int .i64 0, .int .i64 0]) 0 S68 inf3 ?_; intro w72 S73; clear S68
  refine qk [1, 2, 4, 5] ?_
  refine x_utssr (vv (ylr 2 S73 Tryd.underlying41 inf41) ?_)
  refine cab en23 S73 (HW _) ?_; intro w74 S75; clear S73
  refine vv (v := .bool false) (y_binop rfl rfl rfl (r_seql (by kernel_rfl))) ?_
  refine qk [1, 2, 4, 5, 65] ?_
  refine x_tnktssr (vv (ylr 2 S75 Tryd.underlying41 inf41) ?_)
  refine cab en23 S75 (HW _) ?_; intro w77 S78; clear S75
  refine vv (v := .bool false) (y_binop rfl rfl rfl (r_seql (by kernel_rfl))) ?_
  refine qk [1, 4, 5, 83] ?_
  refine x_tnktssr (vv (yfa 0 fa41_0) ?_)
  refine vv (ylc 0 S78 Tryd.underlying3) ?_
  refine vv (dneqT (h := by omega)) ?_
  refine qk [4, 5, 95] ?_
  refine wQ_then (wC_cond_t rfl (wC_region (vv (yfa 5 fa41_5) ?_)))
  refine vv (yfa 5 fa39_0) ?_
  refine sr (row' := #[.int .i64 x.kd, .int .i64 x.nd, .int .i64 0, .int .i64 0, .int .i64 0, .int .i64 0, .int .i64 0, .int .i64 0, .int .i64 0, .int .i64 0, .int .i64 0]) 0 S78 inf3 ?_; intro w80 S81; clear S78
  refine qk [4, 5] ?_
  refine x_tsr (vv (ylr 0 S81 Tryd.underlying41 inf41) ?_)
  refine sa 1 S81 inf41 ?_; intro w82 S83; clear S81
  refine qk [4] ?_
  refine x_te (wQ_post (rs := [.cell 4 41]) (vs := [.agg #[.int .i64 x.kd, .int .i64 x.nd, .int .i64 0, .int .i64 0, .int .i64 0, .int .i64 0, .int .i64 0, .int .i64 0, .int .i64 0, .int .i64 0, .int .i64 0]]) rfl ⟨⟨_, rfl, res_row 1 S83 rfl Tryd.underlying41 rfl inf41⟩, trivial⟩ ?_)
  rw [show keep x = ⟨x.kd, x.nd, 0, 0, 0, 0, 0, 0, 0, 0, 0⟩ from by simp [keep, hk]]
  exact ⟨rfl, S83.low⟩
 ·have hl := hf
  simp [formL, hk] at hl
  subst hl
  have HW := fun w => ActWord_calls (bareA (x.kd, x.ek)) w
  rw [show wordOf (bareA (x.kd, x.ek)).kd (bareA (x.kd, x.ek)).ek = ⟨#[99, 114, 97, 115, 104]⟩ from by simp [wordOf, bareA, hk]] at HW
  refine wC_region (vv (ylr 2 S11 Tryd.underlying41 inf41) ?_)
  refine cab en23 S11 (HW _) ?_; intro w84 S85; clear S11
  refine qk [1, 2, 4, 5, 14] ?_
  refine wQ_then (wC_block (wC_seq (wC_seq (wC_region (vv (v := .bool false) (y_binop rfl rfl rfl (r_seql (by kernel_rfl))) ?_)))))
  refine va ?_
  refine qk [1, 2, 4, 5, 14, 15] ?_
  refine wQ_then (wC_cond_f rfl (wC_region (vv (v := .bool false) (y_binop rfl rfl rfl (r_seql (by kernel_rfl))) ?_)))
  refine va ?_
  refine qk [1, 2, 4, 5, 14, 15] ?_
  refine wQ_then (wC_cond_f rfl (wC_seq (wC_seq (wC_region (vv (v := .bool false) (y_binop rfl rfl rfl (r_seql (by kernel_rfl))) ?_)))))
  refine va ?_
  refine qk [1, 2, 4, 5, 14, 26] ?_
  refine wQ_then (wC_cond_f rfl (wC_region (vv (v := .bool false) (y_binop rfl rfl rfl (r_seql (by kernel_rfl))) ?_)))
  refine va ?_
  refine qk [1, 2, 4, 5, 14, 26] ?_
  refine x_tnsr (vv (v := .bool true) (y_binop rfl rfl rfl (r_seql (by kernel_rfl))) ?_)
  refine va ?_
  refine qk [1, 2, 4, 5, 14, 33] ?_
  refine x_tysr (vm ?_)
  obtain ⟨b87, o88, rfl⟩ := Rd.addr (St.rd 3 S85 rfl) (by decide)
  refine vv (v := .pointer (some ⟨b87, o88 + 0, none⟩)) (y_indexAddr rfl rfl rfl (r_indexAddr 0 Tryd.underlying62 inf3 rfl (by decide))) ?_
  refine vv (v := .int .i64 x.nd) (y_load rfl rfl (r_load Tryd.underlying3 rfl (Rd.cl (j := 0) (St.rd 3 S85 rfl) rfl))) ?_
  refine vv (yfa 1 fa41_1) ?_
  refine sr (row' := #[.int .i64 x.kd, .int .i64 x.nd, .int .i64 0, .int .i64 0, .int .i64 0, .int .i64 x.ek, .int .i64 0, .int .i64 0, .int .i64 0, .int .i64 0, .int .i64 0]) 0 S85 inf3 ?_; intro w89 S90; clear S85
  refine qk [1, 2, 4, 5] ?_
  refine x_tr (vm ?_)
  refine vv (v := .pointer (some ⟨b87, o88 + 1, none⟩)) (y_indexAddr rfl rfl rfl (r_indexAddr 1 Tryd.underlying62 inf3 rfl (by decide))) ?_
  refine vv (v := .int .i64 x.kp) (y_load rfl rfl (r_load Tryd.underlying3 rfl (Rd.cl (j := 1) (St.rd 3 S90 rfl) rfl))) ?_
  refine vv (yfa 4 fa41_4) ?_
  refine sr (row' := #[.int .i64 x.kd, .int .i64 x.nd, .int .i64 0, .int .i64 0, .int .i64 x.kp, .int .i64 x.ek, .int .i64 0, .int .i64 0, .int .i64 0, .int .i64 0, .int .i64 0]) 0 S90 inf3 ?_; intro w91 S92; clear S90
  refine qk [1, 2, 4, 5] ?_
  refine x_utssr (vv (ylr 2 S92 Tryd.underlying41 inf41) ?_)
  refine cab en23 S92 (HW _) ?_; intro w93 S94; clear S92
  refine vv (v := .bool false) (y_binop rfl rfl rfl (r_seql (by kernel_rfl))) ?_
  refine qk [1, 2, 4, 5, 65] ?_
  refine x_tnktssr (vv (ylr 2 S94 Tryd.underlying41 inf41) ?_)
  refine cab en23 S94 (HW _) ?_; intro w96 S97; clear S94
  refine vv (v := .bool false) (y_binop rfl rfl rfl (r_seql (by kernel_rfl))) ?_
  refine qk [1, 4, 5, 83] ?_
  refine x_tnktssr (vv (yfa 0 fa41_0) ?_)
  refine vv (ylc 0 S97 Tryd.underlying3) ?_
  refine vv (dneqT (h := by omega)) ?_
  refine qk [4, 5, 95] ?_
  refine wQ_then (wC_cond_t rfl (wC_region (vv (yfa 5 fa41_5) ?_)))
  refine vv (yfa 5 fa39_0) ?_
  refine sr (row' := #[.int .i64 x.kd, .int .i64 x.nd, .int .i64 0, .int .i64 0, .int .i64 x.kp, .int .i64 0, .int .i64 0, .int .i64 0, .int .i64 0, .int .i64 0, .int .i64 0]) 0 S97 inf3 ?_; intro w99 S100; clear S97
  refine qk [4, 5] ?_
  refine x_tsr (vv (ylr 0 S100 Tryd.underlying41 inf41) ?_)
  refine sa 1 S100 inf41 ?_; intro w101 S102; clear S100
  refine qk [4] ?_
  refine x_te (wQ_post (rs := [.cell 4 41]) (vs := [.agg #[.int .i64 x.kd, .int .i64 x.nd, .int .i64 0, .int .i64 0, .int .i64 x.kp, .int .i64 0, .int .i64 0, .int .i64 0, .int .i64 0, .int .i64 0, .int .i64 0]]) rfl ⟨⟨_, rfl, res_row 1 S102 rfl Tryd.underlying41 rfl inf41⟩, trivial⟩ ?_)
  rw [show keep x = ⟨x.kd, x.nd, 0, 0, x.kp, 0, 0, 0, 0, 0, 0⟩ from by simp [keep, hk]]
  exact ⟨rfl, S102.low⟩
 ·have hl := hf
  simp [formL, hk] at hl
  subst hl
  have HW := fun w => ActWord_calls (bareA (x.kd, x.ek)) w
  rw [show wordOf (bareA (x.kd, x.ek)).kd (bareA (x.kd, x.ek)).ek = ⟨#[99, 97, 114, 114, 121]⟩ from by simp [wordOf, bareA, hk]] at HW
  refine wC_region (vv (ylr 2 S11 Tryd.underlying41 inf41) ?_)
  refine cab en23 S11 (HW _) ?_; intro w103 S104; clear S11
  refine qk [1, 2, 4, 5, 14] ?_
  refine wQ_then (wC_block (wC_seq (wC_seq (wC_region (vv (v := .bool false) (y_binop rfl rfl rfl (r_seql (by kernel_rfl))) ?_)))))
  refine va ?_
  refine qk [1, 2, 4, 5, 14, 15] ?_
  refine wQ_then (wC_cond_f rfl (wC_region (vv (v := .bool false) (y_binop rfl rfl rfl (r_seql (by kernel_rfl))) ?_)))
  refine va ?_
  refine qk [1, 2, 4, 5, 14, 15] ?_
  refine wQ_then (wC_cond_f rfl (wC_seq (wC_seq (wC_region (vv (v := .bool false) (y_binop rfl rfl rfl (r_seql (by kernel_rfl))) ?_)))))
  refine va ?_
  refine qk [1, 2, 4, 5, 14, 26] ?_
  refine wQ_then (wC_cond_f rfl (wC_region (vv (v := .bool false) (y_binop rfl rfl rfl (r_seql (by kernel_rfl))) ?_)))
  refine va ?_
  refine qk [1, 2, 4, 5, 14, 26] ?_
  refine x_tnsr (vv (v := .bool false) (y_binop rfl rfl rfl (r_seql (by kernel_rfl))) ?_)
  refine va ?_
  refine qk [1, 2, 4, 5, 14, 33] ?_
  refine wQ_then (wC_cond_f rfl (wC_seq (wC_seq (wC_region (vv (v := .bool true) (y_binop rfl rfl rfl (r_seql (by kernel_rfl))) ?_)))))
  refine va ?_
  refine qk [1, 2, 4, 5, 14, 43] ?_
  refine wQ_then (wC_cond_t rfl (wC_skip (wQ_then (wC_cond_t rfl (wC_region (vm ?_))))))
  obtain ⟨b106, o107, rfl⟩ := Rd.addr (St.rd 3 S104 rfl) (by decide)
  refine vv (v := .pointer (some ⟨b106, o107 + 0, none⟩)) (y_indexAddr rfl rfl rfl (r_indexAddr 0 Tryd.underlying62 inf3 rfl (by decide))) ?_
  refine vv (v := .int .i64 x.at_) (y_load rfl rfl (r_load Tryd.underlying3 rfl (Rd.cl (j := 0) (St.rd 3 S104 rfl) rfl))) ?_
  refine vv (yfa 3 fa41_3) ?_
  refine sr (row' := #[.int .i64 x.kd, .int .i64 0, .int .i64 0, .int .i64 x.at_, .int .i64 0, .int .i64 x.ek, .int .i64 0, .int .i64 0, .int .i64 0, .int .i64 0, .int .i64 0]) 0 S104 inf3 ?_; intro w108 S109; clear S104
  refine qk [1, 2, 4, 5] ?_
  refine x_utssr (vv (ylr 2 S109 Tryd.underlying41 inf41) ?_)
  refine cab en23 S109 (HW _) ?_; intro w110 S111; clear S109
  refine vv (v := .bool false) (y_binop rfl rfl rfl (r_seql (by kernel_rfl))) ?_
  refine qk [1, 2, 4, 5, 65] ?_
  refine x_tnktssr (vv (ylr 2 S111 Tryd.underlying41 inf41) ?_)
  refine cab en23 S111 (HW _) ?_; intro w113 S114; clear S111
  refine vv (v := .bool false) (y_binop rfl rfl rfl (r_seql (by kernel_rfl))) ?_
  refine qk [1, 4, 5, 83] ?_
  refine x_tnktssr (vv (yfa 0 fa41_0) ?_)
  refine vv (ylc 0 S114 Tryd.underlying3) ?_
  refine vv (dneqT (h := by omega)) ?_
  refine qk [4, 5, 95] ?_
  refine wQ_then (wC_cond_t rfl (wC_region (vv (yfa 5 fa41_5) ?_)))
  refine vv (yfa 5 fa39_0) ?_
  refine sr (row' := #[.int .i64 x.kd, .int .i64 0, .int .i64 0, .int .i64 x.at_, .int .i64 0, .int .i64 0, .int .i64 0, .int .i64 0, .int .i64 0, .int .i64 0, .int .i64 0]) 0 S114 inf3 ?_; intro w116 S117; clear S114
  refine qk [4, 5] ?_
  refine x_tsr (vv (ylr 0 S117 Tryd.underlying41 inf41) ?_)
  refine sa 1 S117 inf41 ?_; intro w118 S119; clear S117
  refine qk [4] ?_
  refine x_te (wQ_post (rs := [.cell 4 41]) (vs := [.agg #[.int .i64 x.kd, .int .i64 0, .int .i64 0, .int .i64 x.at_, .int .i64 0, .int .i64 0, .int .i64 0, .int .i64 0, .int .i64 0, .int .i64 0, .int .i64 0]]) rfl ⟨⟨_, rfl, res_row 1 S119 rfl Tryd.underlying41 rfl inf41⟩, trivial⟩ ?_)
  rw [show keep x = ⟨x.kd, 0, 0, x.at_, 0, 0, 0, 0, 0, 0, 0⟩ from by simp [keep, hk]]
  exact ⟨rfl, S119.low⟩
 ·have hl := hf
  simp [formL, hk] at hl
  subst hl
  have HW := fun w => ActWord_calls (bareA (x.kd, x.ek)) w
  rw [show wordOf (bareA (x.kd, x.ek)).kd (bareA (x.kd, x.ek)).ek = ⟨#[108, 111, 115, 101]⟩ from by simp [wordOf, bareA, hk]] at HW
  refine wC_region (vv (ylr 2 S11 Tryd.underlying41 inf41) ?_)
  refine cab en23 S11 (HW _) ?_; intro w120 S121; clear S11
  refine qk [1, 2, 4, 5, 14] ?_
  refine wQ_then (wC_block (wC_seq (wC_seq (wC_region (vv (v := .bool false) (y_binop rfl rfl rfl (r_seql (by kernel_rfl))) ?_)))))
  refine va ?_
  refine qk [1, 2, 4, 5, 14, 15] ?_
  refine wQ_then (wC_cond_f rfl (wC_region (vv (v := .bool false) (y_binop rfl rfl rfl (r_seql (by kernel_rfl))) ?_)))
  refine va ?_
  refine qk [1, 2, 4, 5, 14, 15] ?_
  refine wQ_then (wC_cond_f rfl (wC_seq (wC_seq (wC_region (vv (v := .bool false) (y_binop rfl rfl rfl (r_seql (by kernel_rfl))) ?_)))))
  refine va ?_
  refine qk [1, 2, 4, 5, 14, 26] ?_
  refine wQ_then (wC_cond_f rfl (wC_region (vv (v := .bool false) (y_binop rfl rfl rfl (r_seql (by kernel_rfl))) ?_)))
  refine va ?_
  refine qk [1, 2, 4, 5, 14, 26] ?_
  refine x_tnsr (vv (v := .bool false) (y_binop rfl rfl rfl (r_seql (by kernel_rfl))) ?_)
  refine va ?_
  refine qk [1, 2, 4, 5, 14, 33] ?_
  refine wQ_then (wC_cond_f rfl (wC_seq (wC_seq (wC_region (vv (v := .bool false) (y_binop rfl rfl rfl (r_seql (by kernel_rfl))) ?_)))))
  refine va ?_
  refine qk [1, 2, 4, 5, 14, 43] ?_
  refine x_tnsr (vv (v := .bool true) (y_binop rfl rfl rfl (r_seql (by kernel_rfl))) ?_)
  refine va ?_
  refine qk [1, 2, 4, 5, 14, 43] ?_
  refine wQ_then (wC_cond_t rfl (wC_skip (wQ_then (wC_cond_t rfl (wC_region (vm ?_))))))
  obtain ⟨b123, o124, rfl⟩ := Rd.addr (St.rd 3 S121 rfl) (by decide)
  refine vv (v := .pointer (some ⟨b123, o124 + 0, none⟩)) (y_indexAddr rfl rfl rfl (r_indexAddr 0 Tryd.underlying62 inf3 rfl (by decide))) ?_
  refine vv (v := .int .i64 x.at_) (y_load rfl rfl (r_load Tryd.underlying3 rfl (Rd.cl (j := 0) (St.rd 3 S121 rfl) rfl))) ?_
  refine vv (yfa 3 fa41_3) ?_
  refine sr (row' := #[.int .i64 x.kd, .int .i64 0, .int .i64 0, .int .i64 x.at_, .int .i64 0, .int .i64 x.ek, .int .i64 0, .int .i64 0, .int .i64 0, .int .i64 0, .int .i64 0]) 0 S121 inf3 ?_; intro w125 S126; clear S121
  refine qk [1, 2, 4, 5] ?_
  refine x_utssr (vv (ylr 2 S126 Tryd.underlying41 inf41) ?_)
  refine cab en23 S126 (HW _) ?_; intro w127 S128; clear S126
  refine vv (v := .bool false) (y_binop rfl rfl rfl (r_seql (by kernel_rfl))) ?_
  refine qk [1, 2, 4, 5, 65] ?_
  refine x_tnktssr (vv (ylr 2 S128 Tryd.underlying41 inf41) ?_)
  refine cab en23 S128 (HW _) ?_; intro w130 S131; clear S128
  refine vv (v := .bool false) (y_binop rfl rfl rfl (r_seql (by kernel_rfl))) ?_
  refine qk [1, 4, 5, 83] ?_
  refine x_tnktssr (vv (yfa 0 fa41_0) ?_)
  refine vv (ylc 0 S131 Tryd.underlying3) ?_
  refine vv (dneqT (h := by omega)) ?_
  refine qk [4, 5, 95] ?_
  refine wQ_then (wC_cond_t rfl (wC_region (vv (yfa 5 fa41_5) ?_)))
  refine vv (yfa 5 fa39_0) ?_
  refine sr (row' := #[.int .i64 x.kd, .int .i64 0, .int .i64 0, .int .i64 x.at_, .int .i64 0, .int .i64 0, .int .i64 0, .int .i64 0, .int .i64 0, .int .i64 0, .int .i64 0]) 0 S131 inf3 ?_; intro w133 S134; clear S131
  refine qk [4, 5] ?_
  refine x_tsr (vv (ylr 0 S134 Tryd.underlying41 inf41) ?_)
  refine sa 1 S134 inf41 ?_; intro w135 S136; clear S134
  refine qk [4] ?_
  refine x_te (wQ_post (rs := [.cell 4 41]) (vs := [.agg #[.int .i64 x.kd, .int .i64 0, .int .i64 0, .int .i64 x.at_, .int .i64 0, .int .i64 0, .int .i64 0, .int .i64 0, .int .i64 0, .int .i64 0, .int .i64 0]]) rfl ⟨⟨_, rfl, res_row 1 S136 rfl Tryd.underlying41 rfl inf41⟩, trivial⟩ ?_)
  rw [show keep x = ⟨x.kd, 0, 0, x.at_, 0, 0, 0, 0, 0, 0, 0⟩ from by simp [keep, hk]]
  exact ⟨rfl, S136.low⟩
 ·have hl := hf
  simp [formL, hk] at hl
  subst hl
  have HW := fun w => ActWord_calls (bareA (x.kd, x.ek)) w
  rw [show wordOf (bareA (x.kd, x.ek)).kd (bareA (x.kd, x.ek)).ek = ⟨#[100, 111, 117, 98, 108, 101]⟩ from by simp [wordOf, bareA, hk]] at HW
  refine wC_region (vv (ylr 2 S11 Tryd.underlying41 inf41) ?_)
  refine cab en23 S11 (HW _) ?_; intro w137 S138; clear S11
  refine qk [1, 2, 4, 5, 14] ?_
  refine wQ_then (wC_block (wC_seq (wC_seq (wC_region (vv (v := .bool false) (y_binop rfl rfl rfl (r_seql (by kernel_rfl))) ?_)))))
  refine va ?_
  refine qk [1, 2, 4, 5, 14, 15] ?_
  refine wQ_then (wC_cond_f rfl (wC_region (vv (v := .bool false) (y_binop rfl rfl rfl (r_seql (by kernel_rfl))) ?_)))
  refine va ?_
  refine qk [1, 2, 4, 5, 14, 15] ?_
  refine wQ_then (wC_cond_f rfl (wC_seq (wC_seq (wC_region (vv (v := .bool false) (y_binop rfl rfl rfl (r_seql (by kernel_rfl))) ?_)))))
  refine va ?_
  refine qk [1, 2, 4, 5, 14, 26] ?_
  refine wQ_then (wC_cond_f rfl (wC_region (vv (v := .bool false) (y_binop rfl rfl rfl (r_seql (by kernel_rfl))) ?_)))
  refine va ?_
  refine qk [1, 2, 4, 5, 14, 26] ?_
  refine x_tnsr (vv (v := .bool false) (y_binop rfl rfl rfl (r_seql (by kernel_rfl))) ?_)
  refine va ?_
  refine qk [1, 2, 4, 5, 14, 33] ?_
  refine wQ_then (wC_cond_f rfl (wC_seq (wC_seq (wC_region (vv (v := .bool false) (y_binop rfl rfl rfl (r_seql (by kernel_rfl))) ?_)))))
  refine va ?_
  refine qk [1, 2, 4, 5, 14, 43] ?_
  refine x_tnsr (vv (v := .bool false) (y_binop rfl rfl rfl (r_seql (by kernel_rfl))) ?_)
  refine va ?_
  refine qk [1, 2, 4, 5, 14, 43] ?_
  refine wQ_then (wC_cond_f rfl (wC_region (vv (v := .bool true) (y_binop rfl rfl rfl (r_seql (by kernel_rfl))) ?_)))
  refine va ?_
  refine qk [1, 2, 4, 5, 14, 43] ?_
  refine wQ_then (wC_cond_t rfl (wC_region (vm ?_)))
  obtain ⟨b140, o141, rfl⟩ := Rd.addr (St.rd 3 S138 rfl) (by decide)
  refine vv (v := .pointer (some ⟨b140, o141 + 0, none⟩)) (y_indexAddr rfl rfl rfl (r_indexAddr 0 Tryd.underlying62 inf3 rfl (by decide))) ?_
  refine vv (v := .int .i64 x.at_) (y_load rfl rfl (r_load Tryd.underlying3 rfl (Rd.cl (j := 0) (St.rd 3 S138 rfl) rfl))) ?_
  refine vv (yfa 3 fa41_3) ?_
  refine sr (row' := #[.int .i64 x.kd, .int .i64 0, .int .i64 0, .int .i64 x.at_, .int .i64 0, .int .i64 x.ek, .int .i64 0, .int .i64 0, .int .i64 0, .int .i64 0, .int .i64 0]) 0 S138 inf3 ?_; intro w142 S143; clear S138
  refine qk [1, 2, 4, 5] ?_
  refine x_utssr (vv (ylr 2 S143 Tryd.underlying41 inf41) ?_)
  refine cab en23 S143 (HW _) ?_; intro w144 S145; clear S143
  refine vv (v := .bool false) (y_binop rfl rfl rfl (r_seql (by kernel_rfl))) ?_
  refine qk [1, 2, 4, 5, 65] ?_
  refine x_tnktssr (vv (ylr 2 S145 Tryd.underlying41 inf41) ?_)
  refine cab en23 S145 (HW _) ?_; intro w147 S148; clear S145
  refine vv (v := .bool false) (y_binop rfl rfl rfl (r_seql (by kernel_rfl))) ?_
  refine qk [1, 4, 5, 83] ?_
  refine x_tnktssr (vv (yfa 0 fa41_0) ?_)
  refine vv (ylc 0 S148 Tryd.underlying3) ?_
  refine vv (dneqT (h := by omega)) ?_
  refine qk [4, 5, 95] ?_
  refine wQ_then (wC_cond_t rfl (wC_region (vv (yfa 5 fa41_5) ?_)))
  refine vv (yfa 5 fa39_0) ?_
  refine sr (row' := #[.int .i64 x.kd, .int .i64 0, .int .i64 0, .int .i64 x.at_, .int .i64 0, .int .i64 0, .int .i64 0, .int .i64 0, .int .i64 0, .int .i64 0, .int .i64 0]) 0 S148 inf3 ?_; intro w150 S151; clear S148
  refine qk [4, 5] ?_
  refine x_tsr (vv (ylr 0 S151 Tryd.underlying41 inf41) ?_)
  refine sa 1 S151 inf41 ?_; intro w152 S153; clear S151
  refine qk [4] ?_
  refine x_te (wQ_post (rs := [.cell 4 41]) (vs := [.agg #[.int .i64 x.kd, .int .i64 0, .int .i64 0, .int .i64 x.at_, .int .i64 0, .int .i64 0, .int .i64 0, .int .i64 0, .int .i64 0, .int .i64 0, .int .i64 0]]) rfl ⟨⟨_, rfl, res_row 1 S153 rfl Tryd.underlying41 rfl inf41⟩, trivial⟩ ?_)
  rw [show keep x = ⟨x.kd, 0, 0, x.at_, 0, 0, 0, 0, 0, 0, 0⟩ from by simp [keep, hk]]
  exact ⟨rfl, S153.low⟩
 ·have hl := hf
  simp [formL, hk] at hl
  subst hl
  have HW := fun w => ActWord_calls (bareA (x.kd, x.ek)) w
  rw [show wordOf (bareA (x.kd, x.ek)).kd (bareA (x.kd, x.ek)).ek = ⟨#[97, 108, 108]⟩ from by simp [wordOf, bareA, hk]] at HW
  refine wC_region (vv (ylr 2 S11 Tryd.underlying41 inf41) ?_)
  refine cab en23 S11 (HW _) ?_; intro w154 S155; clear S11
  refine qk [1, 2, 4, 5, 14] ?_
  refine wQ_then (wC_block (wC_seq (wC_seq (wC_region (vv (v := .bool false) (y_binop rfl rfl rfl (r_seql (by kernel_rfl))) ?_)))))
  refine va ?_
  refine qk [1, 2, 4, 5, 14, 15] ?_
  refine wQ_then (wC_cond_f rfl (wC_region (vv (v := .bool false) (y_binop rfl rfl rfl (r_seql (by kernel_rfl))) ?_)))
  refine va ?_
  refine qk [1, 2, 4, 5, 14, 15] ?_
  refine wQ_then (wC_cond_f rfl (wC_seq (wC_seq (wC_region (vv (v := .bool false) (y_binop rfl rfl rfl (r_seql (by kernel_rfl))) ?_)))))
  refine va ?_
  refine qk [1, 2, 4, 5, 14, 26] ?_
  refine wQ_then (wC_cond_f rfl (wC_region (vv (v := .bool false) (y_binop rfl rfl rfl (r_seql (by kernel_rfl))) ?_)))
  refine va ?_
  refine qk [1, 2, 4, 5, 14, 26] ?_
  refine x_tnsr (vv (v := .bool false) (y_binop rfl rfl rfl (r_seql (by kernel_rfl))) ?_)
  refine va ?_
  refine qk [1, 2, 4, 5, 14, 33] ?_
  refine wQ_then (wC_cond_f rfl (wC_seq (wC_seq (wC_region (vv (v := .bool false) (y_binop rfl rfl rfl (r_seql (by kernel_rfl))) ?_)))))
  refine va ?_
  refine qk [1, 2, 4, 5, 14, 43] ?_
  refine x_tnsr (vv (v := .bool false) (y_binop rfl rfl rfl (r_seql (by kernel_rfl))) ?_)
  refine va ?_
  refine qk [1, 2, 4, 5, 14, 43] ?_
  refine wQ_then (wC_cond_f rfl (wC_region (vv (v := .bool false) (y_binop rfl rfl rfl (r_seql (by kernel_rfl))) ?_)))
  refine va ?_
  refine qk [1, 2, 4, 5, 14, 43] ?_
  refine wQ_then (wC_cond_f rfl (wC_seq (wC_seq (wC_region (vv (v := .bool false) (y_binop rfl rfl rfl (r_seql (by kernel_rfl))) ?_)))))
  refine va ?_
  refine qk [1, 2, 4, 5, 14, 51] ?_
  refine x_tnsr (vv (v := .bool false) (y_binop rfl rfl rfl (r_seql (by kernel_rfl))) ?_)
  refine va ?_
  refine qk [1, 2, 4, 5, 14, 51] ?_
  refine wQ_then (wC_cond_f rfl (wC_region (vv (v := .bool false) (y_binop rfl rfl rfl (r_seql (by kernel_rfl))) ?_)))
  refine va ?_
  refine qk [1, 2, 4, 5, 51] ?_
  refine wQ_then (wC_cond_f rfl (wC_skip (wQ_blk_n (wQ_then (wC_seq (wC_seq (wC_region (vv (ylr 2 S155 Tryd.underlying41 inf41) ?_))))))))
  refine cab en23 S155 (HW _) ?_; intro w157 S158; clear S155
  refine vv (v := .bool false) (y_binop rfl rfl rfl (r_seql (by kernel_rfl))) ?_
  refine qk [1, 2, 4, 5, 65] ?_
  refine x_tnktssr (vv (ylr 2 S158 Tryd.underlying41 inf41) ?_)
  refine cab en23 S158 (HW _) ?_; intro w160 S161; clear S158
  refine vv (v := .bool false) (y_binop rfl rfl rfl (r_seql (by kernel_rfl))) ?_
  refine qk [1, 4, 5, 83] ?_
  refine x_tnktssr (vv (yfa 0 fa41_0) ?_)
  refine vv (ylc 0 S161 Tryd.underlying3) ?_
  refine vv (dneqT (h := by omega)) ?_
  refine qk [4, 5, 95] ?_
  refine wQ_then (wC_cond_t rfl (wC_region (vv (yfa 5 fa41_5) ?_)))
  refine vv (yfa 5 fa39_0) ?_
  refine sr (row' := #[.int .i64 x.kd, .int .i64 0, .int .i64 0, .int .i64 0, .int .i64 0, .int .i64 0, .int .i64 0, .int .i64 0, .int .i64 0, .int .i64 0, .int .i64 0]) 0 S161 inf3 ?_; intro w163 S164; clear S161
  refine qk [4, 5] ?_
  refine x_tsr (vv (ylr 0 S164 Tryd.underlying41 inf41) ?_)
  refine sa 1 S164 inf41 ?_; intro w165 S166; clear S164
  refine qk [4] ?_
  refine x_te (wQ_post (rs := [.cell 4 41]) (vs := [.agg #[.int .i64 x.kd, .int .i64 0, .int .i64 0, .int .i64 0, .int .i64 0, .int .i64 0, .int .i64 0, .int .i64 0, .int .i64 0, .int .i64 0, .int .i64 0]]) rfl ⟨⟨_, rfl, res_row 1 S166 rfl Tryd.underlying41 rfl inf41⟩, trivial⟩ ?_)
  rw [show keep x = ⟨x.kd, 0, 0, 0, 0, 0, 0, 0, 0, 0, 0⟩ from by simp [keep, hk]]
  exact ⟨rfl, S166.low⟩
 ·have hl := hf
  simp [formL, hk, hek] at hl
  subst hl
  have HW := fun w => ActWord_calls (bareA (x.kd, x.ek)) w
  rw [show wordOf (bareA (x.kd, x.ek)).kd (bareA (x.kd, x.ek)).ek = ⟨#[112, 117, 98, 108, 105, 115, 104]⟩ from by simp [wordOf, bareA, hk, hek]] at HW
  refine wC_region (vv (ylr 2 S11 Tryd.underlying41 inf41) ?_)
  refine cab en23 S11 (HW _) ?_; intro w167 S168; clear S11
  refine qk [1, 2, 4, 5, 14] ?_
  refine wQ_then (wC_block (wC_seq (wC_seq (wC_region (vv (v := .bool false) (y_binop rfl rfl rfl (r_seql (by kernel_rfl))) ?_)))))
  refine va ?_
  refine qk [1, 2, 4, 5, 14, 15] ?_
  refine wQ_then (wC_cond_f rfl (wC_region (vv (v := .bool false) (y_binop rfl rfl rfl (r_seql (by kernel_rfl))) ?_)))
  refine va ?_
  refine qk [1, 2, 4, 5, 14, 15] ?_
  refine wQ_then (wC_cond_f rfl (wC_seq (wC_seq (wC_region (vv (v := .bool false) (y_binop rfl rfl rfl (r_seql (by kernel_rfl))) ?_)))))
  refine va ?_
  refine qk [1, 2, 4, 5, 14, 26] ?_
  refine wQ_then (wC_cond_f rfl (wC_region (vv (v := .bool false) (y_binop rfl rfl rfl (r_seql (by kernel_rfl))) ?_)))
  refine va ?_
  refine qk [1, 2, 4, 5, 14, 26] ?_
  refine x_tnsr (vv (v := .bool false) (y_binop rfl rfl rfl (r_seql (by kernel_rfl))) ?_)
  refine va ?_
  refine qk [1, 2, 4, 5, 14, 33] ?_
  refine wQ_then (wC_cond_f rfl (wC_seq (wC_seq (wC_region (vv (v := .bool false) (y_binop rfl rfl rfl (r_seql (by kernel_rfl))) ?_)))))
  refine va ?_
  refine qk [1, 2, 4, 5, 14, 43] ?_
  refine x_tnsr (vv (v := .bool false) (y_binop rfl rfl rfl (r_seql (by kernel_rfl))) ?_)
  refine va ?_
  refine qk [1, 2, 4, 5, 14, 43] ?_
  refine wQ_then (wC_cond_f rfl (wC_region (vv (v := .bool false) (y_binop rfl rfl rfl (r_seql (by kernel_rfl))) ?_)))
  refine va ?_
  refine qk [1, 2, 4, 5, 14, 43] ?_
  refine wQ_then (wC_cond_f rfl (wC_seq (wC_seq (wC_region (vv (v := .bool true) (y_binop rfl rfl rfl (r_seql (by kernel_rfl))) ?_)))))
  refine va ?_
  refine qk [1, 2, 4, 5, 14, 51] ?_
  refine wQ_then (wC_cond_t rfl (wC_skip (wQ_then (wC_cond_t rfl (wC_seq (wC_region (vm ?_)))))))
  obtain ⟨b170, o171, rfl⟩ := Rd.addr (St.rd 3 S168 rfl) (by decide)
  refine vv (v := .pointer (some ⟨b170, o171 + 0, none⟩)) (y_indexAddr rfl rfl rfl (r_indexAddr 0 Tryd.underlying62 inf3 rfl (by decide))) ?_
  refine vv (v := .int .i64 x.nd) (y_load rfl rfl (r_load Tryd.underlying3 rfl (Rd.cl (j := 0) (St.rd 3 S168 rfl) rfl))) ?_
  refine vv (yfa 1 fa41_1) ?_
  refine sr (row' := #[.int .i64 x.kd, .int .i64 x.nd, .int .i64 0, .int .i64 0, .int .i64 0, .int .i64 x.ek, .int .i64 0, .int .i64 0, .int .i64 0, .int .i64 0, .int .i64 0]) 0 S168 inf3 ?_; intro w172 S173; clear S168
  refine qk [1, 2, 4, 5] ?_
  refine x_tr (vm ?_)
  refine vv (v := .pointer (some ⟨b170, o171 + 1, none⟩)) (y_indexAddr rfl rfl rfl (r_indexAddr 1 Tryd.underlying62 inf3 rfl (by decide))) ?_
  refine vv (v := .int .i64 x.qu) (y_load rfl rfl (r_load Tryd.underlying3 rfl (Rd.cl (j := 1) (St.rd 3 S173 rfl) rfl))) ?_
  refine vv (yfa 2 fa41_2) ?_
  refine sr (row' := #[.int .i64 x.kd, .int .i64 x.nd, .int .i64 x.qu, .int .i64 0, .int .i64 0, .int .i64 x.ek, .int .i64 0, .int .i64 0, .int .i64 0, .int .i64 0, .int .i64 0]) 0 S173 inf3 ?_; intro w174 S175; clear S173
  refine qk [1, 2, 4, 5] ?_
  refine x_utssr (vv (ylr 2 S175 Tryd.underlying41 inf41) ?_)
  refine cab en23 S175 (HW _) ?_; intro w176 S177; clear S175
  refine vv (v := .bool true) (y_binop rfl rfl rfl (r_seql (by kernel_rfl))) ?_
  refine qk [1, 2, 4, 5, 65] ?_
  refine x_tysr (vm ?_)
  refine vv (v := .pointer (some ⟨b170, o171 + 2, none⟩)) (y_indexAddr rfl rfl rfl (r_indexAddr 2 Tryd.underlying62 inf3 rfl (by decide))) ?_
  refine vv (v := .int .i64 x.ep) (y_load rfl rfl (r_load Tryd.underlying3 rfl (Rd.cl (j := 2) (St.rd 3 S177 rfl) rfl))) ?_
  refine vv (yfa 5 fa41_5) ?_
  refine vv (yfa 6 fa39_1) ?_
  refine sr (row' := #[.int .i64 x.kd, .int .i64 x.nd, .int .i64 x.qu, .int .i64 0, .int .i64 0, .int .i64 x.ek, .int .i64 x.ep, .int .i64 0, .int .i64 0, .int .i64 0, .int .i64 0]) 0 S177 inf3 ?_; intro w179 S180; clear S177
  refine qk [1, 2, 4, 5] ?_
  refine x_tsr (vm ?_)
  refine vv (v := .pointer (some ⟨b170, o171 + 3, none⟩)) (y_indexAddr rfl rfl rfl (r_indexAddr 3 Tryd.underlying62 inf3 rfl (by decide))) ?_
  refine vv (v := .int .i64 x.ei) (y_load rfl rfl (r_load Tryd.underlying3 rfl (Rd.cl (j := 3) (St.rd 3 S180 rfl) rfl))) ?_
  refine vv (yfa 5 fa41_5) ?_
  refine vv (yfa 7 fa39_2) ?_
  refine sr (row' := #[.int .i64 x.kd, .int .i64 x.nd, .int .i64 x.qu, .int .i64 0, .int .i64 0, .int .i64 x.ek, .int .i64 x.ep, .int .i64 x.ei, .int .i64 0, .int .i64 0, .int .i64 0]) 0 S180 inf3 ?_; intro w181 S182; clear S180
  refine qk [1, 2, 4, 5] ?_
  refine x_tr (vm ?_)
  refine vv (v := .pointer (some ⟨b170, o171 + 4, none⟩)) (y_indexAddr rfl rfl rfl (r_indexAddr 4 Tryd.underlying62 inf3 rfl (by decide))) ?_
  refine vv (v := .int .i64 x.eb) (y_load rfl rfl (r_load Tryd.underlying3 rfl (Rd.cl (j := 4) (St.rd 3 S182 rfl) rfl))) ?_
  refine vv (yfa 5 fa41_5) ?_
  refine vv (yfa 8 fa39_3) ?_
  refine sr (row' := #[.int .i64 x.kd, .int .i64 x.nd, .int .i64 x.qu, .int .i64 0, .int .i64 0, .int .i64 x.ek, .int .i64 x.ep, .int .i64 x.ei, .int .i64 x.eb, .int .i64 0, .int .i64 0]) 0 S182 inf3 ?_; intro w183 S184; clear S182
  refine qk [1, 2, 4, 5] ?_
  refine x_tssr (vv (ylr 2 S184 Tryd.underlying41 inf41) ?_)
  refine cab en23 S184 (HW _) ?_; intro w185 S186; clear S184
  refine vv (v := .bool false) (y_binop rfl rfl rfl (r_seql (by kernel_rfl))) ?_
  refine qk [1, 4, 5, 83] ?_
  refine x_tnktssr (vv (yfa 0 fa41_0) ?_)
  refine vv (ylc 0 S186 Tryd.underlying3) ?_
  refine vv (dneqF (h := by omega)) ?_
  refine qk [4, 5, 95] ?_
  refine x_tnktsr (vv (ylr 0 S186 Tryd.underlying41 inf41) ?_)
  refine sa 1 S186 inf41 ?_; intro w188 S189; clear S186
  refine qk [4] ?_
  refine x_te (wQ_post (rs := [.cell 4 41]) (vs := [.agg #[.int .i64 x.kd, .int .i64 x.nd, .int .i64 x.qu, .int .i64 0, .int .i64 0, .int .i64 x.ek, .int .i64 x.ep, .int .i64 x.ei, .int .i64 x.eb, .int .i64 0, .int .i64 0]]) rfl ⟨⟨_, rfl, res_row 1 S189 rfl Tryd.underlying41 rfl inf41⟩, trivial⟩ ?_)
  rw [show keep x = ⟨x.kd, x.nd, x.qu, 0, 0, x.ek, x.ep, x.ei, x.eb, 0, 0⟩ from by simp [keep, hk, hek]]
  exact ⟨rfl, S189.low⟩
 ·have hl := hf
  simp [formL, hk, hek] at hl
  subst hl
  have HW := fun w => ActWord_calls (bareA (x.kd, x.ek)) w
  rw [show wordOf (bareA (x.kd, x.ek)).kd (bareA (x.kd, x.ek)).ek = ⟨#[114, 101, 99, 101, 105, 118, 101]⟩ from by simp [wordOf, bareA, hk, hek]] at HW
  refine wC_region (vv (ylr 2 S11 Tryd.underlying41 inf41) ?_)
  refine cab en23 S11 (HW _) ?_; intro w190 S191; clear S11
  refine qk [1, 2, 4, 5, 14] ?_
  refine wQ_then (wC_block (wC_seq (wC_seq (wC_region (vv (v := .bool false) (y_binop rfl rfl rfl (r_seql (by kernel_rfl))) ?_)))))
  refine va ?_
  refine qk [1, 2, 4, 5, 14, 15] ?_
  refine wQ_then (wC_cond_f rfl (wC_region (vv (v := .bool false) (y_binop rfl rfl rfl (r_seql (by kernel_rfl))) ?_)))
  refine va ?_
  refine qk [1, 2, 4, 5, 14, 15] ?_
  refine wQ_then (wC_cond_f rfl (wC_seq (wC_seq (wC_region (vv (v := .bool false) (y_binop rfl rfl rfl (r_seql (by kernel_rfl))) ?_)))))
  refine va ?_
  refine qk [1, 2, 4, 5, 14, 26] ?_
  refine wQ_then (wC_cond_f rfl (wC_region (vv (v := .bool false) (y_binop rfl rfl rfl (r_seql (by kernel_rfl))) ?_)))
  refine va ?_
  refine qk [1, 2, 4, 5, 14, 26] ?_
  refine x_tnsr (vv (v := .bool false) (y_binop rfl rfl rfl (r_seql (by kernel_rfl))) ?_)
  refine va ?_
  refine qk [1, 2, 4, 5, 14, 33] ?_
  refine wQ_then (wC_cond_f rfl (wC_seq (wC_seq (wC_region (vv (v := .bool false) (y_binop rfl rfl rfl (r_seql (by kernel_rfl))) ?_)))))
  refine va ?_
  refine qk [1, 2, 4, 5, 14, 43] ?_
  refine x_tnsr (vv (v := .bool false) (y_binop rfl rfl rfl (r_seql (by kernel_rfl))) ?_)
  refine va ?_
  refine qk [1, 2, 4, 5, 14, 43] ?_
  refine wQ_then (wC_cond_f rfl (wC_region (vv (v := .bool false) (y_binop rfl rfl rfl (r_seql (by kernel_rfl))) ?_)))
  refine va ?_
  refine qk [1, 2, 4, 5, 14, 43] ?_
  refine wQ_then (wC_cond_f rfl (wC_seq (wC_seq (wC_region (vv (v := .bool false) (y_binop rfl rfl rfl (r_seql (by kernel_rfl))) ?_)))))
  refine va ?_
  refine qk [1, 2, 4, 5, 14, 51] ?_
  refine x_tnsr (vv (v := .bool true) (y_binop rfl rfl rfl (r_seql (by kernel_rfl))) ?_)
  refine va ?_
  refine qk [1, 2, 4, 5, 14, 51] ?_
  refine wQ_then (wC_cond_t rfl (wC_skip (wQ_then (wC_cond_t rfl (wC_seq (wC_region (vm ?_)))))))
  obtain ⟨b193, o194, rfl⟩ := Rd.addr (St.rd 3 S191 rfl) (by decide)
  refine vv (v := .pointer (some ⟨b193, o194 + 0, none⟩)) (y_indexAddr rfl rfl rfl (r_indexAddr 0 Tryd.underlying62 inf3 rfl (by decide))) ?_
  refine vv (v := .int .i64 x.nd) (y_load rfl rfl (r_load Tryd.underlying3 rfl (Rd.cl (j := 0) (St.rd 3 S191 rfl) rfl))) ?_
  refine vv (yfa 1 fa41_1) ?_
  refine sr (row' := #[.int .i64 x.kd, .int .i64 x.nd, .int .i64 0, .int .i64 0, .int .i64 0, .int .i64 x.ek, .int .i64 0, .int .i64 0, .int .i64 0, .int .i64 0, .int .i64 0]) 0 S191 inf3 ?_; intro w195 S196; clear S191
  refine qk [1, 2, 4, 5] ?_
  refine x_tr (vm ?_)
  refine vv (v := .pointer (some ⟨b193, o194 + 1, none⟩)) (y_indexAddr rfl rfl rfl (r_indexAddr 1 Tryd.underlying62 inf3 rfl (by decide))) ?_
  refine vv (v := .int .i64 x.qu) (y_load rfl rfl (r_load Tryd.underlying3 rfl (Rd.cl (j := 1) (St.rd 3 S196 rfl) rfl))) ?_
  refine vv (yfa 2 fa41_2) ?_
  refine sr (row' := #[.int .i64 x.kd, .int .i64 x.nd, .int .i64 x.qu, .int .i64 0, .int .i64 0, .int .i64 x.ek, .int .i64 0, .int .i64 0, .int .i64 0, .int .i64 0, .int .i64 0]) 0 S196 inf3 ?_; intro w197 S198; clear S196
  refine qk [1, 2, 4, 5] ?_
  refine x_utssr (vv (ylr 2 S198 Tryd.underlying41 inf41) ?_)
  refine cab en23 S198 (HW _) ?_; intro w199 S200; clear S198
  refine vv (v := .bool false) (y_binop rfl rfl rfl (r_seql (by kernel_rfl))) ?_
  refine qk [1, 2, 4, 5, 65] ?_
  refine x_tnktssr (vv (ylr 2 S200 Tryd.underlying41 inf41) ?_)
  refine cab en23 S200 (HW _) ?_; intro w202 S203; clear S200
  refine vv (v := .bool false) (y_binop rfl rfl rfl (r_seql (by kernel_rfl))) ?_
  refine qk [1, 4, 5, 83] ?_
  refine x_tnktssr (vv (yfa 0 fa41_0) ?_)
  refine vv (ylc 0 S203 Tryd.underlying3) ?_
  refine vv (dneqF (h := by omega)) ?_
  refine qk [4, 5, 95] ?_
  refine x_tnktsr (vv (ylr 0 S203 Tryd.underlying41 inf41) ?_)
  refine sa 1 S203 inf41 ?_; intro w205 S206; clear S203
  refine qk [4] ?_
  refine x_te (wQ_post (rs := [.cell 4 41]) (vs := [.agg #[.int .i64 x.kd, .int .i64 x.nd, .int .i64 x.qu, .int .i64 0, .int .i64 0, .int .i64 x.ek, .int .i64 0, .int .i64 0, .int .i64 0, .int .i64 0, .int .i64 0]]) rfl ⟨⟨_, rfl, res_row 1 S206 rfl Tryd.underlying41 rfl inf41⟩, trivial⟩ ?_)
  rw [show keep x = ⟨x.kd, x.nd, x.qu, 0, 0, x.ek, 0, 0, 0, 0, 0⟩ from by simp [keep, hk, hek]]
  exact ⟨rfl, S206.low⟩
 ·have hl := hf
  simp [formL, hk, hek] at hl
  subst hl
  have HW := fun w => ActWord_calls (bareA (x.kd, x.ek)) w
  rw [show wordOf (bareA (x.kd, x.ek)).kd (bareA (x.kd, x.ek)).ek = ⟨#[97, 99, 107]⟩ from by simp [wordOf, bareA, hk, hek]] at HW
  refine wC_region (vv (ylr 2 S11 Tryd.underlying41 inf41) ?_)
  refine cab en23 S11 (HW _) ?_; intro w207 S208; clear S11
  refine qk [1, 2, 4, 5, 14] ?_
  refine wQ_then (wC_block (wC_seq (wC_seq (wC_region (vv (v := .bool false) (y_binop rfl rfl rfl (r_seql (by kernel_rfl))) ?_)))))
  refine va ?_
  refine qk [1, 2, 4, 5, 14, 15] ?_
  refine wQ_then (wC_cond_f rfl (wC_region (vv (v := .bool false) (y_binop rfl rfl rfl (r_seql (by kernel_rfl))) ?_)))
  refine va ?_
  refine qk [1, 2, 4, 5, 14, 15] ?_
  refine wQ_then (wC_cond_f rfl (wC_seq (wC_seq (wC_region (vv (v := .bool false) (y_binop rfl rfl rfl (r_seql (by kernel_rfl))) ?_)))))
  refine va ?_
  refine qk [1, 2, 4, 5, 14, 26] ?_
  refine wQ_then (wC_cond_f rfl (wC_region (vv (v := .bool false) (y_binop rfl rfl rfl (r_seql (by kernel_rfl))) ?_)))
  refine va ?_
  refine qk [1, 2, 4, 5, 14, 26] ?_
  refine x_tnsr (vv (v := .bool false) (y_binop rfl rfl rfl (r_seql (by kernel_rfl))) ?_)
  refine va ?_
  refine qk [1, 2, 4, 5, 14, 33] ?_
  refine wQ_then (wC_cond_f rfl (wC_seq (wC_seq (wC_region (vv (v := .bool false) (y_binop rfl rfl rfl (r_seql (by kernel_rfl))) ?_)))))
  refine va ?_
  refine qk [1, 2, 4, 5, 14, 43] ?_
  refine x_tnsr (vv (v := .bool false) (y_binop rfl rfl rfl (r_seql (by kernel_rfl))) ?_)
  refine va ?_
  refine qk [1, 2, 4, 5, 14, 43] ?_
  refine wQ_then (wC_cond_f rfl (wC_region (vv (v := .bool false) (y_binop rfl rfl rfl (r_seql (by kernel_rfl))) ?_)))
  refine va ?_
  refine qk [1, 2, 4, 5, 14, 43] ?_
  refine wQ_then (wC_cond_f rfl (wC_seq (wC_seq (wC_region (vv (v := .bool false) (y_binop rfl rfl rfl (r_seql (by kernel_rfl))) ?_)))))
  refine va ?_
  refine qk [1, 2, 4, 5, 14, 51] ?_
  refine x_tnsr (vv (v := .bool false) (y_binop rfl rfl rfl (r_seql (by kernel_rfl))) ?_)
  refine va ?_
  refine qk [1, 2, 4, 5, 14, 51] ?_
  refine wQ_then (wC_cond_f rfl (wC_region (vv (v := .bool true) (y_binop rfl rfl rfl (r_seql (by kernel_rfl))) ?_)))
  refine va ?_
  refine qk [1, 2, 4, 5, 51] ?_
  refine x_tysr (vm ?_)
  obtain ⟨b210, o211, rfl⟩ := Rd.addr (St.rd 3 S208 rfl) (by decide)
  refine vv (v := .pointer (some ⟨b210, o211 + 0, none⟩)) (y_indexAddr rfl rfl rfl (r_indexAddr 0 Tryd.underlying62 inf3 rfl (by decide))) ?_
  refine vv (v := .int .i64 x.nd) (y_load rfl rfl (r_load Tryd.underlying3 rfl (Rd.cl (j := 0) (St.rd 3 S208 rfl) rfl))) ?_
  refine vv (yfa 1 fa41_1) ?_
  refine sr (row' := #[.int .i64 x.kd, .int .i64 x.nd, .int .i64 0, .int .i64 0, .int .i64 0, .int .i64 x.ek, .int .i64 0, .int .i64 0, .int .i64 0, .int .i64 0, .int .i64 0]) 0 S208 inf3 ?_; intro w212 S213; clear S208
  refine qk [1, 2, 4, 5] ?_
  refine x_tr (vm ?_)
  refine vv (v := .pointer (some ⟨b210, o211 + 1, none⟩)) (y_indexAddr rfl rfl rfl (r_indexAddr 1 Tryd.underlying62 inf3 rfl (by decide))) ?_
  refine vv (v := .int .i64 x.qu) (y_load rfl rfl (r_load Tryd.underlying3 rfl (Rd.cl (j := 1) (St.rd 3 S213 rfl) rfl))) ?_
  refine vv (yfa 2 fa41_2) ?_
  refine sr (row' := #[.int .i64 x.kd, .int .i64 x.nd, .int .i64 x.qu, .int .i64 0, .int .i64 0, .int .i64 x.ek, .int .i64 0, .int .i64 0, .int .i64 0, .int .i64 0, .int .i64 0]) 0 S213 inf3 ?_; intro w214 S215; clear S213
  refine qk [1, 2, 4, 5] ?_
  refine x_utssr (vv (ylr 2 S215 Tryd.underlying41 inf41) ?_)
  refine cab en23 S215 (HW _) ?_; intro w216 S217; clear S215
  refine vv (v := .bool false) (y_binop rfl rfl rfl (r_seql (by kernel_rfl))) ?_
  refine qk [1, 2, 4, 5, 65] ?_
  refine x_tnktssr (vv (ylr 2 S217 Tryd.underlying41 inf41) ?_)
  refine cab en23 S217 (HW _) ?_; intro w219 S220; clear S217
  refine vv (v := .bool true) (y_binop rfl rfl rfl (r_seql (by kernel_rfl))) ?_
  refine qk [1, 4, 5, 83] ?_
  refine wQ_then (wC_cond_t rfl ?_)
  have S222 := S220.drew; clear S220
  refine wC_head (C := fun w' => St w.heap.size w w' [.blk b7 #[.int .i64 x.kd, .int .i64 x.nd, .int .i64 x.qu, .int .i64 0, .int .i64 0, .int .i64 x.ek, .int .i64 0, .int .i64 0, .int .i64 0, .int .i64 0, .int .i64 0] 41, .blk b4 #[.int .i64 0, .int .i64 0, .int .i64 0, .int .i64 0, .int .i64 0, .int .i64 0, .int .i64 0, .int .i64 0, .int .i64 0, .int .i64 0, .int .i64 0] 41, .blk b1 #[.int .i64 x.kd, .int .i64 0, .int .i64 0, .int .i64 0, .int .i64 0, .int .i64 x.ek, .int .i64 0, .int .i64 0, .int .i64 0, .int .i64 0, .int .i64 0] 41, .rd 1 (some ⟨b210, o211, none⟩) 4 [.int .i64 x.nd, .int .i64 x.qu, .int .i64 x.eh, .int .i64 x.en]]) (m := 10) (listed := #[false, false, false, false, false, false, false, false, false, false]) 7 mixed rfl rfl ?_
  refine gk (v := .slice (some ⟨b210, o211, none⟩) 4 c) 0 rfl S222 (fun _ _ => ym) ?_
  refine gk (v := .pointer (some ⟨b210, o211 + 2, none⟩)) 1 rfl S222 (fun _ _ => (y_indexAddr rfl rfl rfl (r_indexAddr 2 Tryd.underlying62 inf3 rfl (by decide)))) ?_
  refine gk (v := .int .i64 x.eh) 2 rfl S222 (fun _ Sx225 => (y_load rfl rfl (r_load Tryd.underlying3 rfl (Rd.cl (j := 2) (St.rd 3 Sx225 rfl) rfl)))) ?_
  refine gk (v := .slice (some ⟨b210, o211, none⟩) 4 c) 3 rfl S222 (fun _ _ => ym) ?_
  refine gk (v := .pointer (some ⟨b210, o211 + 3, none⟩)) 4 rfl S222 (fun _ _ => (y_indexAddr rfl rfl rfl (r_indexAddr 3 Tryd.underlying62 inf3 rfl (by decide)))) ?_
  refine gk (v := .int .i64 x.en) 5 rfl S222 (fun _ Sx228 => (y_load rfl rfl (r_load Tryd.underlying3 rfl (Rd.cl (j := 3) (St.rd 3 Sx228 rfl) rfl)))) ?_
  refine gk (v := .agg #[.int .i64 x.eh, .int .i64 x.en]) 6 rfl S222 (fun _ _ => (y_build (vs := [(0, .int .i64 x.eh), (1, .int .i64 x.en)]) rfl ⟨rfl, rfl, rfl, rfl, trivial⟩ (by kernel_rfl))) ?_
  refine wG_tail (by kernel_rfl) rfl rfl rfl ?_
  refine vv (yfa 5 fa41_5) ?_
  refine vv (yfa 9 fa39_4) ?_
  refine sr (row' := #[.int .i64 x.kd, .int .i64 x.nd, .int .i64 x.qu, .int .i64 0, .int .i64 0, .int .i64 x.ek, .int .i64 0, .int .i64 0, .int .i64 0, .int .i64 x.eh, .int .i64 x.en]) 0 S222 inf37 ?_; intro w230 S231; clear S222
  refine wL_nil (wQ_np ?_)
  refine pk [4, 5] ?_
  refine x_tssr (vv (yfa 0 fa41_0) ?_)
  refine vv (ylc 0 S231 Tryd.underlying3) ?_
  refine vv (dneqF (h := by omega)) ?_
  refine qk [4, 5, 95] ?_
  refine x_tnktsr (vv (ylr 0 S231 Tryd.underlying41 inf41) ?_)
  refine sa 1 S231 inf41 ?_; intro w232 S233; clear S231
  refine qk [4] ?_
  refine x_te (wQ_post (rs := [.cell 4 41]) (vs := [.agg #[.int .i64 x.kd, .int .i64 x.nd, .int .i64 x.qu, .int .i64 0, .int .i64 0, .int .i64 x.ek, .int .i64 0, .int .i64 0, .int .i64 0, .int .i64 x.eh, .int .i64 x.en]]) rfl ⟨⟨_, rfl, res_row 1 S233 rfl Tryd.underlying41 rfl inf41⟩, trivial⟩ ?_)
  rw [show keep x = ⟨x.kd, x.nd, x.qu, 0, 0, x.ek, 0, 0, 0, x.eh, x.en⟩ from by simp [keep, hk, hek]]
  exact ⟨rfl, S233.low⟩
 ·rw [hn] at hf; cases hf
end Go.Proofs.YtkjlafpafmihaaaDoor

namespace Go.Proofs.YtkjlafpafmihaaaDoor
open Go.ChangeShapes Go.WideShapes Go.RowKit

set_option maxRecDepth 100000 in
set_option maxHeartbeats 8000000 in
theorem lineAct_calls (s : List UInt8) (hs : s.length ≤ 4000000) (w : World) :
    Calls Tryd.prog 19 #[str s] w (AcPost w (lineO s)) := by
 have S := St.start w
 refine fnw 95 Tryd.func19 ?_
 refine cw [0] ?_
 refine x_sr (na (row := #[.int .i64 0, .int .i64 0, .int .i64 0, .int .i64 0, .int .i64 0, .int .i64 0, .int .i64 0, .int .i64 0, .int .i64 0, .int .i64 0, .int .i64 0]) S Tryd.zeroValue41 ?_); intro b1 w2 S3; clear S
 refine wL_nil (wQ_then (wC_seq (wC_region (va ?_))))
 refine wL_nil (wQ_then (wC_seq (wC_region (va ?_))))
 refine wL_nil (wQ_then (wC_seq (wC_seq (wC_region (va ?_)))))
 refine wL_nil (wQ_then (wC_block ?_))
 have S4 := S3.nil 9 1; clear S3
 change St _ _ _ [.own 9 1 (.slice none 0 0) 0 (([]).flatMap strC), _] at S4
 refine wC_loop (X := (List (List UInt8)) × Nat × (Option Addr) × Nat × Nat × Nat) (fun xv => [(0, str s), (2, .pointer (some ⟨b1, 0, none⟩)), (3, .slice xv.2.2.1 xv.2.1 xv.2.2.2.1), (4, .int .i64 ((xv.2.2.2.2.1 : Nat) : Int)), (5, .int .i64 ((xv.2.2.2.2.2 : Nat) : Int))]) (fun xv wr => (xv.2.2.2.2.2 ≤ s.length + 1) ∧ (xv.2.1 = xv.1.length) ∧ (xv.1.length ≤ xv.2.2.2.2.2) ∧ (WInv s xv.1 xv.2.2.2.2.1 xv.2.2.2.2.2) ∧ St w.heap.size w wr [.own 9 1 (.slice xv.2.2.1 xv.2.1 xv.2.2.2.1) xv.2.1 ((xv.1).flatMap strC), .blk b1 #[.int .i64 0, .int .i64 0, .int .i64 0, .int .i64 0, .int .i64 0, .int .i64 0, .int .i64 0, .int .i64 0, .int .i64 0, .int .i64 0, .int .i64 0] 41]) (fun xv => s.length + 1 - xv.2.2.2.2.2) ([], 0, none, 0, 0, 0) ?_ ?_ ?_
 ·exact ⟨Nat.zero_le _, rfl, Nat.le_refl _, WInv.start, S4⟩
 ·exact ⟨rfl, rfl, rfl, rfl, rfl, trivial⟩
 ·rintro ⟨ws, n, A3, c3, f, i⟩ w5 ⟨hi7, hi8, hi9, hi10, S6⟩
  try dsimp only at hi7 hi8 hi9 hi10 S6; clear S4
  refine wC_sub (l' := [(0, str s), (2, .pointer (some ⟨b1, 0, none⟩)), (3, .slice A3 n c3), (4, .int .i64 ((f : Nat) : Int)), (5, .int .i64 ((i : Nat) : Int))]) ⟨rfl, rfl, rfl, rfl, rfl, trivial⟩ ?_
  have hfi := hi10.le
  refine wC_seq (wC_seq (wC_region (vm ?_)))
  refine vm ?_
  refine vv (v := .int .i64 ((s.length : Nat) : Int)) (y_builtin (vs := [str s]) rfl ⟨rfl, trivial⟩ fun _ => r_slen rfl Tryd.underlying9) ?_
  by_cases h11 : ((i : Nat) : Int) ≤ ((s.length : Nat) : Int)
  ·refine vv (yleqT h11) ?_
   refine qk [0, 2, 3, 4, 5, 15] ?_
   refine wQ_then (wC_cond_t rfl (wC_skip (wQ_then (wC_seq (wC_block (wC_seq (wC_region (vm ?_))))))))
   refine vm ?_
   refine vv (v := .int .i64 ((s.length : Nat) : Int)) (y_builtin (vs := [str s]) rfl ⟨rfl, trivial⟩ fun _ => r_slen rfl Tryd.underlying9) ?_
   by_cases h12 : ((i : Nat) : Int) = ((s.length : Nat) : Int)
   ·refine vv (yeqlT h12) ?_
    refine vm ?_
    iterate 4 refine vs ?_
    refine vv ypT ?_
    refine qk [0, 2, 3, 4, 5, 27] ?_
    refine x_tysr (vm ?_)
    iterate 3 refine vm ?_
    refine vv (v := str ((s.drop f).take (i - f))) (y_slice rfl rfl (evo_s rfl) (evo_s rfl) evo_n (r_ssl Tryd.underlying9 (by omega) (by omega) rfl)) ?_
    refine wL_new (V := fun b => .slice (some ⟨b, 0, none⟩) 1 1) (row := #[str ((s.drop f).take (i - f))]) (t := 9) S6 (wn rfl) rfl rfl (d_buildSlice (vs := [(0, str ((s.drop f).take (i - f)))]) rfl ⟨rfl, rfl, trivial⟩ (by kernel_rfl)) ?_; intro b13 w14 S15; clear S6
    refine wL_append (news := [str ((s.drop f).take (i - f))]) (xs' := (ws ++ [(s.drop f).take (i - f)]).flatMap strC) 1 S15 (wn rfl) rfl rfl rfl rfl rfl rfl (St.bld (xs := [str ((s.drop f).take (i - f))]) 0 S15 rfl rfl rfl) Tryd.underlying68 infz9 rfl (by decide) (oneAll rfl) (by simp only [maxLen]; omega) (by omega) (by simp [strC]) ?_; intro A16 c17 w18 hc20 hm21 S19; clear S15
    change St _ _ _ [_, .own 9 1 (.slice A16 (n + 1) c17) (n + 1) ((ws ++ [(s.drop f).take (i - f)]).flatMap strC), _] at S19
    refine va ?_
    refine qk [0, 2, 3, 5] ?_
    refine x_tr (vm ?_)
    refine vv (v := .int .i64 ((i + 1 : Nat) : Int)) (y_binop rfl rfl rfl (r_add (by omega) (by omega))) ?_
    refine va ?_
    refine qk [0, 2, 3, 5, 4] ?_
    refine wQ_blk_n (wQ_then (wC_region (vm ?_)))
    refine vv (v := .int .i64 ((i + 1 : Nat) : Int)) (y_binop rfl rfl rfl (r_add (by omega) (by omega))) ?_
    refine va ?_
    refine qk [0, 2, 3, 5, 4] ?_
    have S22 : St _ _ _ [_, _] := S19.dels [0]; clear S19
    refine wQ_round (ws ++ [(s.drop f).take (i - f)], n + 1, A16, c17, i + 1, i + 1) ?_ ⟨rfl, rfl, rfl, rfl, rfl, trivial⟩ (by first | omega | (dsimp only; omega))
    exact ⟨(by dsimp only; omega), (by dsimp only; rw [List.length_append, List.length_singleton]; omega), (by dsimp only; rw [List.length_append, List.length_singleton]; omega), (WInv.last hi10 (by omega)), S22⟩
   ·refine vv (yeqlF h12) ?_
    refine vm ?_
    refine vg ym ?_
    refine vg ym ?_
    obtain ⟨x23, hx24⟩ : ∃ c, (s)[i]? = some c := ⟨_, List.getElem?_eq_getElem (by omega)⟩
    refine vg (v := .int .u8 ((x23.toNat : Nat) : Int)) (y_index (q := .int .i64 ((i : Nat) : Int)) rfl rfl rfl (r_sidx Tryd.underlying9 hx24)) ?_
    by_cases h25 : ((x23.toNat : Nat) : Int) = 32
    ·refine vg (yeqlT h25) ?_
     refine vv ypF ?_
     refine qk [0, 2, 3, 4, 5, 27] ?_
     refine x_tysr (vm ?_)
     iterate 3 refine vm ?_
     refine vv (v := str ((s.drop f).take (i - f))) (y_slice rfl rfl (evo_s rfl) (evo_s rfl) evo_n (r_ssl Tryd.underlying9 (by omega) (by omega) rfl)) ?_
     refine wL_new (V := fun b => .slice (some ⟨b, 0, none⟩) 1 1) (row := #[str ((s.drop f).take (i - f))]) (t := 9) S6 (wn rfl) rfl rfl (d_buildSlice (vs := [(0, str ((s.drop f).take (i - f)))]) rfl ⟨rfl, rfl, trivial⟩ (by kernel_rfl)) ?_; intro b26 w27 S28; clear S6
     refine wL_append (news := [str ((s.drop f).take (i - f))]) (xs' := (ws ++ [(s.drop f).take (i - f)]).flatMap strC) 1 S28 (wn rfl) rfl rfl rfl rfl rfl rfl (St.bld (xs := [str ((s.drop f).take (i - f))]) 0 S28 rfl rfl rfl) Tryd.underlying68 infz9 rfl (by decide) (oneAll rfl) (by simp only [maxLen]; omega) (by omega) (by simp [strC]) ?_; intro A29 c30 w31 hc33 hm34 S32; clear S28
     change St _ _ _ [_, .own 9 1 (.slice A29 (n + 1) c30) (n + 1) ((ws ++ [(s.drop f).take (i - f)]).flatMap strC), _] at S32
     refine va ?_
     refine qk [0, 2, 3, 5] ?_
     refine x_tr (vm ?_)
     refine vv (v := .int .i64 ((i + 1 : Nat) : Int)) (y_binop rfl rfl rfl (r_add (by omega) (by omega))) ?_
     refine va ?_
     refine qk [0, 2, 3, 5, 4] ?_
     refine wQ_blk_n (wQ_then (wC_region (vm ?_)))
     refine vv (v := .int .i64 ((i + 1 : Nat) : Int)) (y_binop rfl rfl rfl (r_add (by omega) (by omega))) ?_
     refine va ?_
     refine qk [0, 2, 3, 5, 4] ?_
     have S35 : St _ _ _ [_, _] := S32.dels [0]; clear S32
     refine wQ_round (ws ++ [(s.drop f).take (i - f)], n + 1, A29, c30, i + 1, i + 1) ?_ ⟨rfl, rfl, rfl, rfl, rfl, trivial⟩ (by first | omega | (dsimp only; omega))
     exact ⟨(by dsimp only; omega), (by dsimp only; rw [List.length_append, List.length_singleton]; omega), (by dsimp only; rw [List.length_append, List.length_singleton]; omega), (WInv.hit hi10 hx24 (u8_32 h25)), S35⟩
    ·refine vg (yeqlF h25) ?_
     refine vv ypF ?_
     refine qk [0, 2, 3, 4, 5, 27] ?_
     refine wQ_then (wC_cond_f rfl (wC_skip (wQ_blk_n (wQ_then (wC_region (vm ?_))))))
     refine vv (v := .int .i64 ((i + 1 : Nat) : Int)) (y_binop rfl rfl rfl (r_add (by omega) (by omega))) ?_
     refine va ?_
     refine qk [0, 2, 3, 4, 5] ?_
     refine wQ_round (ws, n, A3, c3, f, i + 1) ?_ ⟨rfl, rfl, rfl, rfl, rfl, trivial⟩ (by first | omega | (dsimp only; omega))
     exact ⟨(by dsimp only; omega), (by dsimp only; omega), (by dsimp only; omega), (WInv.miss hi10 hx24 (fun e => h25 (by rw [e]; rfl))), S6⟩
  ·refine vv (yleqF h11) ?_
   refine qk [0, 2, 3, 4, 5, 15] ?_
   refine wQ_then (wC_cond_f rfl (wC_exit (wQ_then_exit (wQ_then_exit (wQ_blk_same (wQ_then (wC_seq ?_)))))))
   have hws := hi10.fin (by omega)
   have hne := wordsC_ne s []
   rw [hws] at hne
   have hw1 : 1 ≤ ws.length := List.length_pos_iff.2 hne
   obtain rfl := hi8
   have S36 := S6.sealAll 0 rfl; clear S6
   change St _ _ _ [.rdo 1 A3 ws.length ((ws).flatMap strC), _] at S36
   refine wC_region (wL_call (wn rfl) rfl rfl (e_call (vs := []) rfl en34 trivial) (bares_calls _) ?_)
   rintro _ w39 ⟨A37, c38, rfl, T41⟩
   refine ⟨_, rfl, ?_⟩
   have S40 := S36.ext T41 rfl; clear T41 S36
   change St _ _ _ [.rdo 11 A37 12 ((bareL).flatMap barC), _, _] at S40
   refine va ?_
   refine qk [2, 3, 6] ?_
   refine x_tssr (va ?_)
   refine wL_nil (wQ_then (wC_block (wC_loop (X := Nat) (fun xv => [(2, .pointer (some ⟨b1, 0, none⟩)), (3, .slice A3 ws.length c3), (6, .slice A37 12 c38), (7, .int .i64 ((xv : Nat) : Int))]) (fun xv wr => (xv ≤ 12) ∧ (bareL.find? (hitB (ws.headD [])) = (bareL.drop xv).find? (hitB (ws.headD []))) ∧ St w.heap.size w wr [.rdo 11 A37 12 ((bareL).flatMap barC), .rdo 1 A3 ws.length ((ws).flatMap strC), .blk b1 #[.int .i64 0, .int .i64 0, .int .i64 0, .int .i64 0, .int .i64 0, .int .i64 0, .int .i64 0, .int .i64 0, .int .i64 0, .int .i64 0, .int .i64 0] 41]) (fun xv => 12 - xv) (0) ?_ ?_ ?_)))
   ·exact ⟨Nat.zero_le _, rfl, S40⟩
   ·exact ⟨rfl, rfl, rfl, rfl, trivial⟩
   ·rintro k w42 ⟨hi44, hi45, S43⟩
    try dsimp only at hi44 hi45 S43; clear S40
    refine wC_sub (l' := [(2, .pointer (some ⟨b1, 0, none⟩)), (3, .slice A3 ws.length c3), (6, .slice A37 12 c38), (7, .int .i64 ((k : Nat) : Int))]) ⟨rfl, rfl, rfl, rfl, trivial⟩ (wC_seq (wC_seq (wC_region (vm ?_))))
    refine vm ?_
    refine vv (v := .int .i64 12) (y_builtin (vs := [.slice A37 12 c38]) rfl ⟨rfl, trivial⟩ fun _ => r_len rfl Tryd.underlying22) ?_
    by_cases h46 : ((k : Nat) : Int) < 12
    ·refine vv (ylssT h46) ?_
     refine qk [2, 3, 6, 7, 41] ?_
     refine wQ_then (wC_cond_t rfl (wC_skip (wQ_then (wC_seq (wC_block (wC_seq ?_))))))
     obtain ⟨b47, o48, rfl⟩ := Rd.addr (St.rdo 0 S43 rfl) (by omega)
     obtain ⟨b49, o50, rfl⟩ := Rd.addr (St.rdo 1 S43 rfl) (by omega)
     obtain ⟨x51, hx52⟩ := elm k (St.rdo 0 S43 rfl) (by omega)
     obtain ⟨x53, hx54⟩ := elm 0 (St.rdo 1 S43 rfl) (by omega)
     have hu0 : ws.headD [] = x53 := by rw [List.headD_eq_head?_getD, List.head?_eq_getElem?, hx54]; rfl
     refine wC_seq (wC_quiet S43 mixed (by kernel_rfl) ?_)
     refine uv (v := .slice (some ⟨b47, o48, none⟩) 12 c38) (fun _ _ => ym) ?_
     refine uv (v := .int .i64 ((k : Nat) : Int)) (fun _ _ => ym) ?_
     refine uv (v := .pointer (some ⟨b47, o48 + k * 11, none⟩)) (fun _ _ => (y_indexAddr rfl rfl rfl (r_indexAddr k Tryd.underlying22 inf41 (by omega) (by omega)))) ?_
     refine uv (v := .agg #[.int .i64 x51.1, .int .i64 0, .int .i64 0, .int .i64 0, .int .i64 0, .int .i64 x51.2, .int .i64 0, .int .i64 0, .int .i64 0, .int .i64 0, .int .i64 0]) (fun _ Sx58 => (y_load rfl rfl (r_load_agg (cs := barC x51) Tryd.underlying41 rfl inf41 rfl (Rd.rg2 (St.rdo 0 Sx58 rfl) (fun _ _ h => fm_get (enc := barC) (sz := 11) (fun _ => rfl) hx52 h))))) ?_
     refine wU_call (v := str (wordP x51)) (wn rfl) rfl rfl (fun _ => (e_call (vs := [.agg #[.int .i64 x51.1, .int .i64 0, .int .i64 0, .int .i64 0, .int .i64 0, .int .i64 x51.2, .int .i64 0, .int .i64 0, .int .i64 0, .int .i64 0, .int .i64 0]]) rfl en23 ⟨rfl, trivial⟩)) (fun _ Sx59 => (ActWord_calls (bareA x51) _).mono fun _ _ h => ⟨h.1, Sx59.on h.2⟩) ?_
     refine uv (v := .slice (some ⟨b49, o50, none⟩) ws.length c3) (fun _ _ => ym) ?_
     refine uv (v := .pointer (some ⟨b49, o50 + 0 * 1, none⟩)) (fun _ _ => (y_indexAddr rfl rfl rfl (r_indexAddr 0 Tryd.underlying68 inf9 (by omega) (by omega)))) ?_
     refine uv (v := str x53) (fun _ Sx62 => (y_load rfl rfl (r_load Tryd.underlying9 rfl (Rd.cl2 (i := 0) (St.rdo 1 Sx62 rfl) (fm_get (enc := strC) (sz := 1) (fun _ => rfl) hx54 rfl))))) ?_
     by_cases h63 : wordP x51 = x53
     ·refine uv (v := .bool false) (fun _ _ => (y_binop rfl rfl rfl (r_sneqF h63))) ?_
      refine wU_nil fun w65 S66 => ?_; clear S43
      refine pk [2, 3, 6, 7, 52] ?_
      refine wQ_then (wC_cond_f rfl (wC_skip (wQ_then (wC_seq ?_))))
      have hmem := List.mem_of_getElem? hx52
      obtain ⟨l, hf⟩ := bare_form hmem
      have hl5 := form_len hf
      have hfd : bareL.find? (hitB (ws.headD [])) = some x51 := by rw [hi45]; exact find_here hx52 (by rw [hu0]; exact h63)
      refine wC_region (vm ?_)
      refine vm ?_
      refine vv (v := .pointer (some ⟨b47, o48 + k * 11, none⟩)) (y_indexAddr rfl rfl rfl (r_indexAddr k Tryd.underlying22 inf41 (by omega) (by omega))) ?_
      refine vv (y_load rfl rfl (r_load_agg (cs := barC x51) Tryd.underlying41 rfl inf41 rfl (Rd.rg2 (St.rdo 0 S66 rfl) (fun _ _ h => fm_get (enc := barC) (sz := 11) (fun _ => rfl) hx52 h)))) ?_
      refine cal en24 (actNumW_calls (bareA x51) l hf _) ?_
      rintro _ w69 ⟨A67, A68, rfl, T71⟩
      refine ⟨_, rfl, ?_⟩
      have S70 := S66.ext T71 rfl; clear T71 S66
      change St _ _ _ [.own 3 1 (.slice A67 l.length l.length) l.length (l.flatMap (valC (bareA x51))), _, _, _] at S70
      rw [bare_vals (p := x51) hf] at S70
      refine vm ?_
      refine vv yx ?_
      refine vv yx ?_
      iterate 2 refine va ?_
      refine qk [2, 3, 6, 7, 8] ?_
      refine x_tssr (vm ?_)
      refine vv (v := .int .i64 ((ws.length : Nat) : Int)) (y_builtin (vs := [.slice (some ⟨b49, o50, none⟩) ws.length c3]) rfl ⟨rfl, trivial⟩ fun _ => r_len rfl Tryd.underlying68) ?_
      refine vm ?_
      refine vv (v := .int .i64 ((l.length : Nat) : Int)) (y_builtin (vs := [.slice A67 l.length l.length]) rfl ⟨rfl, trivial⟩ fun _ => r_len rfl Tryd.underlying62) ?_
      refine vv (v := .int .i64 ((l.length + 1 : Nat) : Int)) (y_binop rfl rfl rfl (r_add (by omega) (by omega))) ?_
      by_cases h72 : ((ws.length : Nat) : Int) = ((l.length + 1 : Nat) : Int)
      ·refine vv (yneqF h72) ?_
       refine qk [2, 3, 6, 7, 8, 66] ?_
       refine x_tnktssr (va ?_)
       refine qk [2, 3, 6, 7, 8, 10] ?_
       refine wQ_then (wC_block ?_)
       have hlen : ws.length = l.length + 1 := by omega
       have htl : (ws.tail.map wholeM).length = l.length := by rw [List.length_map, List.length_tail]; omega
       rw [show List.replicate l.length (0 : Int) = rowV (ws.tail.map wholeM) l.length 0 from rowV_start.symm] at S70
       refine wC_loop (X := Nat) (fun xv => [(2, .pointer (some ⟨b1, 0, none⟩)), (3, .slice (some ⟨b49, o50, none⟩) ws.length c3), (6, .slice (some ⟨b47, o48, none⟩) 12 c38), (7, .int .i64 ((k : Nat) : Int)), (8, .slice A67 l.length l.length), (10, .int .i64 ((xv : Nat) : Int))]) (fun xv wr => (xv ≤ l.length) ∧ St w.heap.size w wr [.own 3 1 (.slice A67 l.length l.length) l.length ((rowV (ws.tail.map wholeM) l.length xv).flatMap intC), .rdo 11 (some ⟨b47, o48, none⟩) 12 ((bareL).flatMap barC), .rdo 1 (some ⟨b49, o50, none⟩) ws.length ((ws).flatMap strC), .blk b1 #[.int .i64 0, .int .i64 0, .int .i64 0, .int .i64 0, .int .i64 0, .int .i64 0, .int .i64 0, .int .i64 0, .int .i64 0, .int .i64 0, .int .i64 0] 41]) (fun xv => l.length - xv) (0) ?_ ?_ ?_
       ·exact ⟨Nat.zero_le _, S70⟩
       ·exact ⟨rfl, rfl, rfl, rfl, rfl, rfl, trivial⟩
       ·rintro i w73 ⟨hi75, S74⟩
        try dsimp only at hi75 S74; clear S70
        refine wC_sub (l' := [(2, .pointer (some ⟨b1, 0, none⟩)), (3, .slice (some ⟨b49, o50, none⟩) ws.length c3), (6, .slice (some ⟨b47, o48, none⟩) 12 c38), (7, .int .i64 ((k : Nat) : Int)), (8, .slice A67 l.length l.length), (10, .int .i64 ((i : Nat) : Int))]) ⟨rfl, rfl, rfl, rfl, rfl, rfl, trivial⟩ (wC_seq (wC_seq (wC_region (vm ?_))))
        refine vm ?_
        refine vv (v := .int .i64 ((l.length : Nat) : Int)) (y_builtin (vs := [.slice A67 l.length l.length]) rfl ⟨rfl, trivial⟩ fun _ => r_len rfl Tryd.underlying62) ?_
        by_cases h76 : ((i : Nat) : Int) < ((l.length : Nat) : Int)
        ·refine vv (ylssT h76) ?_
         refine qk [2, 3, 6, 7, 8, 10, 71] ?_
         refine wQ_then (wC_cond_t rfl (wC_skip (wQ_then (wC_seq (wC_block ?_)))))
         obtain ⟨g77, rfl⟩ := own_at0 (S74.own 0 rfl) (by omega)
         obtain ⟨x78, hx79⟩ := elm (i + 1) (St.rdo 2 S74 rfl) (by omega)
         have hvi : (ws.tail.map wholeM)[i]? = some (wholeM x78) := by rw [List.getElem?_map, List.getElem?_tail, hx79]; rfl
         refine wC_region (vm ?_)
         iterate 3 refine vm ?_
         refine vv (v := .int .i64 ((i + 1 : Nat) : Int)) (y_binop rfl rfl rfl (r_add (by omega) (by omega))) ?_
         refine vv (v := .pointer (some ⟨b49, o50 + (i + 1) * 1, none⟩)) (y_indexAddr rfl rfl rfl (r_indexAddr (i + 1) Tryd.underlying68 inf9 (by omega) (by omega))) ?_
         refine vv (y_load rfl rfl (r_load Tryd.underlying9 rfl (Rd.cl2 (i := 0) (St.rdo 2 S74 rfl) (fm_get (enc := strC) (sz := 1) (fun _ => rfl) hx79 rfl)))) ?_
         refine cab en35 S74 (whole_calls x78 _) ?_; intro w80 S81; clear S74
         obtain ⟨x83, hx84⟩ := elm i (St.ord 0 S81 rfl) (by omega)
         refine vv (v := .pointer (some ⟨g77, 0 + i * 1, none⟩)) (y_indexAddr rfl rfl rfl (r_indexAddr i Tryd.underlying62 inf3 (by omega) (by omega))) ?_
         refine wL_stOwn (xs' := (rowV (ws.tail.map wholeM) l.length (i + 1)).flatMap intC) 0 S81 (wn rfl) rfl rfl rfl rfl rfl rfl inf3 rfl (oneAll rfl) (by omega) (by rw [Nat.zero_add, ← rowV_set hvi (by omega)]; exact fmP (enc := intC) (sz := 1) (fun _ => rfl) _ i _ (by rw [rowV_len htl (by omega)]; omega)) ?_; intro w85 S86; clear S81
         change St _ _ _ [.own 3 1 (.slice (some ⟨g77, 0, none⟩) l.length l.length) l.length ((rowV (ws.tail.map wholeM) l.length (i + 1)).flatMap intC), _, _, _] at S86
         refine qk [2, 3, 6, 7, 8, 10] ?_
         refine wQ_blk_n (wQ_then (wC_region (vm ?_)))
         refine vv (v := .int .i64 ((i + 1 : Nat) : Int)) (y_binop rfl rfl rfl (r_add (by omega) (by omega))) ?_
         refine va ?_
         refine qk [2, 3, 6, 7, 8, 10] ?_
         refine wQ_round (i + 1) ?_ ⟨rfl, rfl, rfl, rfl, rfl, rfl, trivial⟩ (by first | omega | (dsimp only; omega))
         exact ⟨(by omega), S86⟩
        ·refine vv (ylssF h76) ?_
         refine qk [2, 3, 6, 7, 8, 10, 71] ?_
         refine wQ_then (wC_cond_f rfl (wC_exit (wQ_then_exit (wQ_then_exit (wQ_blk_same (wQ_then (wC_seq ?_)))))))
         obtain rfl : i = l.length := by omega
         obtain ⟨X, hX⟩ : ∃ X, mkA x51 l (ws.tail.map wholeM) = X := ⟨_, rfl⟩
         obtain ⟨g1, g2, g3⟩ := mkA_get hf htl
         have hkp := keep_mk hf htl hmem
         rw [rowV_end htl, vals_of g3] at S74
         rw [hX] at S74 g1 g2 g3 hkp
         have hfX : formL X.kd X.ek = some l := by rw [g1, g2]; exact hf
         refine wC_region (vm ?_)
         refine vm ?_
         refine vv (v := .pointer (some ⟨b47, o48 + k * 11, none⟩)) (y_indexAddr rfl rfl rfl (r_indexAddr k Tryd.underlying22 inf41 (by omega) (by omega))) ?_
         refine vv (y_load rfl rfl (r_load_agg (cs := barC x51) Tryd.underlying41 rfl inf41 rfl (Rd.rg2 (St.rdo 1 S74 rfl) (fun _ _ h => fm_get (enc := barC) (sz := 11) (fun _ => rfl) hx52 h)))) ?_
         refine vm ?_
         have HO := actOfB_calls X l hfX A67 l.length _ (St.ord 0 S74 rfl)
         rw [g1, g2, hkp] at HO
         refine cab en26 S74 (HO) ?_; intro w87 S88; clear S74
         refine na (row := #[.int .i64 0, .int .i64 0, .int .i64 0, .int .i64 0, .int .i64 0, .int .i64 0, .int .i64 0, .int .i64 0, .int .i64 0, .int .i64 0, .int .i64 0]) S88 Tryd.zeroValue41 ?_; intro b90 w91 S92; clear S88
         refine sa 0 S92 inf41 ?_; intro w93 S94; clear S92
         refine qk [2, 11] ?_
         refine x_tssr (vv (ylr 0 S94 Tryd.underlying41 inf41) ?_)
         refine cab en15 S94 (ActFault_calls X _) ?_; intro w95 S96; clear S94
         by_cases h98 : actFault X = 0
         ·refine vv (yneqF h98) ?_
          refine qk [2, 11, 91] ?_
          refine x_tnktsr (vv (ylr 0 S96 Tryd.underlying41 inf41) ?_)
          refine sa 4 S96 inf41 ?_; intro w99 S100; clear S96
          refine qk [2] ?_
          refine wQ_then (wC_ret (wQ_blk_ret (wQ_then_ret (wQ_then_ret (wQ_blk_ret (wQ_then_ret (wQ_post (rs := [.cell 2 41]) (vs := [.agg #[.int .i64 X.kd, .int .i64 X.nd, .int .i64 X.qu, .int .i64 X.at_, .int .i64 X.kp, .int .i64 X.ek, .int .i64 X.ep, .int .i64 X.ei, .int .i64 X.eb, .int .i64 X.eh, .int .i64 X.en]]) rfl ⟨⟨_, rfl, res_row 4 S100 rfl Tryd.underlying41 rfl inf41⟩, trivial⟩ ?_)))))))
          rw [lineO_ok hws hfd hf hlen (by rw [hX]; exact h98), hX]
          exact ⟨rfl, S100.low⟩
         ·refine vv (yneqT h98) ?_
          refine qk [2, 11, 91] ?_
          refine x_tysr (vv (v := .agg #[.int .i64 0, .int .i64 0, .int .i64 0, .int .i64 0, .int .i64 0, .int .i64 0, .int .i64 0, .int .i64 0, .int .i64 0, .int .i64 0, .int .i64 0]) yz ?_)
          refine sa 4 S96 inf41 ?_; intro w101 S102; clear S96
          refine qk [2] ?_
          refine wQ_then (wC_ret (wQ_then_ret (wQ_blk_ret (wQ_then_ret (wQ_then_ret (wQ_blk_ret (wQ_then_ret (wQ_post (rs := [.cell 2 41]) (vs := [.agg #[.int .i64 0, .int .i64 0, .int .i64 0, .int .i64 0, .int .i64 0, .int .i64 0, .int .i64 0, .int .i64 0, .int .i64 0, .int .i64 0, .int .i64 0]]) rfl ⟨⟨_, rfl, res_row 4 S102 rfl Tryd.underlying41 rfl inf41⟩, trivial⟩ ?_))))))))
          rw [lineO_bad hws hfd hf hlen (by rw [hX]; exact h98)]
          exact ⟨rfl, S102.low⟩
      ·refine vv (yneqT h72) ?_
       refine qk [2, 3, 6, 7, 8, 66] ?_
       refine x_tysr (vv (v := .agg #[.int .i64 0, .int .i64 0, .int .i64 0, .int .i64 0, .int .i64 0, .int .i64 0, .int .i64 0, .int .i64 0, .int .i64 0, .int .i64 0, .int .i64 0]) yz ?_)
       refine sa 3 S70 inf41 ?_; intro w103 S104; clear S70
       refine qk [2] ?_
       refine wQ_then (wC_ret (wQ_then_ret (wQ_blk_ret (wQ_then_ret (wQ_then_ret (wQ_blk_ret (wQ_then_ret (wQ_post (rs := [.cell 2 41]) (vs := [.agg #[.int .i64 0, .int .i64 0, .int .i64 0, .int .i64 0, .int .i64 0, .int .i64 0, .int .i64 0, .int .i64 0, .int .i64 0, .int .i64 0, .int .i64 0]]) rfl ⟨⟨_, rfl, res_row 3 S104 rfl Tryd.underlying41 rfl inf41⟩, trivial⟩ ?_))))))))
       rw [lineO_len hws hfd hf (by omega)]
       exact ⟨rfl, S104.low⟩
     ·refine uv (v := .bool true) (fun _ _ => (y_binop rfl rfl rfl (r_sneqT h63))) ?_
      refine wU_nil fun w106 S107 => ?_; clear S43
      refine pk [2, 3, 6, 7, 52] ?_
      refine wQ_then (wC_cond_t rfl (wC_exit (wQ_then_exit (wQ_blk_same (wQ_then (wC_region (vm ?_)))))))
      refine vv (v := .int .i64 ((k + 1 : Nat) : Int)) (y_binop rfl rfl rfl (r_add (by omega) (by omega))) ?_
      refine va ?_
      refine qk [2, 3, 6, 7] ?_
      refine wQ_round (k + 1) ?_ ⟨rfl, rfl, rfl, rfl, trivial⟩ (by first | omega | (dsimp only; omega))
      exact ⟨(by omega), (by rw [hi45]; exact find_next hx52 (by rw [hu0]; exact h63)), S107⟩
    ·refine vv (ylssF h46) ?_
     refine qk [2, 3, 6, 7, 41] ?_
     refine wQ_then (wC_cond_f rfl (wC_exit (wQ_then_exit (wQ_then_exit (wQ_blk_same (wQ_then (wC_seq (wC_region (vv (v := .agg #[.int .i64 0, .int .i64 0, .int .i64 0, .int .i64 0, .int .i64 0, .int .i64 0, .int .i64 0, .int .i64 0, .int .i64 0, .int .i64 0, .int .i64 0]) yz ?_)))))))))
     refine sa 2 S43 inf41 ?_; intro w108 S109; clear S43
     refine qk [2] ?_
     refine x_te (wQ_post (rs := [.cell 2 41]) (vs := [.agg #[.int .i64 0, .int .i64 0, .int .i64 0, .int .i64 0, .int .i64 0, .int .i64 0, .int .i64 0, .int .i64 0, .int .i64 0, .int .i64 0, .int .i64 0]]) rfl ⟨⟨_, rfl, res_row 2 S109 rfl Tryd.underlying41 rfl inf41⟩, trivial⟩ ?_)
     rw [lineO_none hws (by rw [hi45]; rw [List.drop_of_length_le (by show 12 ≤ _; omega)]; rfl)]
     exact ⟨rfl, S109.low⟩
end Go.Proofs.YtkjlafpafmihaaaDoor

namespace Go.Proofs.YtkjlafpafmihaaaDoor
open Go.ChangeShapes Go.WideShapes Go.RowKit

set_option maxRecDepth 100000 in
set_option maxHeartbeats 8000000 in
theorem ActsRead_calls (t : List UInt8) (w : World) :
    Calls Tryd.prog 10 #[str t] w (ReadPost w (readM t)) := by
 have S := St.start w
 refine fnw 66 Tryd.func10 ?_
 refine cw [0] ?_
 refine x_sr (va ?_)
 iterate 2 refine va ?_
 refine wL_nil (wQ_then (wC_seq (wC_seq (wC_region (vm ?_)))))
 refine vv (v := .int .i64 ((t.length : Nat) : Int)) (y_builtin (vs := [str t]) rfl ⟨rfl, trivial⟩ fun _ => r_slen rfl Tryd.underlying9) ?_
 by_cases h1 : 4000000 < ((t.length : Nat) : Int)
 ·refine vv (ygtrT h1) ?_
  refine qk [0, 2, 3, 4, 11] ?_
  refine x_tysr (va ?_)
  iterate 2 refine va ?_
  refine qk [2, 3, 4] ?_
  refine x_teh (wQ_post (rs := [.tmp 2, .tmp 3, .tmp 4]) (vs := [.slice none 0 0, .int .i64 0, .int .i64 1]) rfl ⟨rfl, rfl, rfl, trivial⟩ ?_)
  rw [readM_big (by omega)]
  exact ReadPost.none S
 ·refine vv (ygtrF h1) ?_
  refine qk [0, 2, 3, 4, 11] ?_
  refine x_tnktsr (va ?_)
  refine qk [0, 2, 3, 4, 5] ?_
  refine x_tsr (va ?_)
  refine wL_nil (wQ_then (wC_seq (wC_seq (wC_region (va ?_)))))
  refine wL_nil (wQ_then (wC_block ?_))
  rw [readM_go h1]
  have S2 := S.nil 41 11; clear S
  change St _ _ _ [.own 41 11 (.slice none 0 0) 0 ((([] : List Ac)).flatMap Ac.cells)] at S2
  refine wC_loop (X := (List Ac) × Nat × (Option Addr) × Nat × Nat × Nat) (fun xv => [(0, str t), (2, .slice none 0 0), (3, .int .i64 0), (4, .int .i64 0), (5, .slice xv.2.2.1 xv.2.1 xv.2.2.2.1), (6, .int .i64 ((xv.2.2.2.2.1 : Nat) : Int)), (7, .int .i64 ((xv.2.2.2.2.2 : Nat) : Int))]) (fun xv wr => (xv.2.2.2.2.2 ≤ t.length + 1) ∧ (xv.2.1 = xv.1.length) ∧ (xv.1.length ≤ 100000) ∧ (RInv t xv.1 xv.2.2.2.2.1 xv.2.2.2.2.2) ∧ St w.heap.size w wr [.own 41 11 (.slice xv.2.2.1 xv.2.1 xv.2.2.2.1) xv.2.1 ((xv.1).flatMap Ac.cells)]) (fun xv => t.length + 1 - xv.2.2.2.2.2) ([], 0, none, 0, 0, 0) ?_ ?_ ?_
  ·exact ⟨Nat.zero_le _, rfl, Nat.zero_le _, RInv.start, S2⟩
  ·exact ⟨rfl, rfl, rfl, rfl, rfl, rfl, rfl, trivial⟩
  ·rintro ⟨L, n, A3, c3, f, i⟩ w3 ⟨hi5, hi6, hi7, hi8, S4⟩
   try dsimp only at hi5 hi6 hi7 hi8 S4; clear S2
   refine wC_sub (l' := [(0, str t), (2, .slice none 0 0), (3, .int .i64 0), (4, .int .i64 0), (5, .slice A3 n c3), (6, .int .i64 ((f : Nat) : Int)), (7, .int .i64 ((i : Nat) : Int))]) ⟨rfl, rfl, rfl, rfl, rfl, rfl, rfl, trivial⟩ ?_
   have hfi := hi8.le
   refine wC_seq (wC_seq (wC_region (vm ?_)))
   refine vm ?_
   refine vv (v := .int .i64 ((t.length : Nat) : Int)) (y_builtin (vs := [str t]) rfl ⟨rfl, trivial⟩ fun _ => r_slen rfl Tryd.underlying9) ?_
   by_cases h9 : ((i : Nat) : Int) ≤ ((t.length : Nat) : Int)
   ·refine vv (yleqT h9) ?_
    refine qk [0, 2, 3, 4, 5, 6, 7, 15] ?_
    refine wQ_then (wC_cond_t rfl (wC_skip (wQ_then (wC_seq (wC_block (wC_seq (wC_seq (wC_region (vm ?_)))))))))
    refine vm ?_
    refine vv (v := .int .i64 ((t.length : Nat) : Int)) (y_builtin (vs := [str t]) rfl ⟨rfl, trivial⟩ fun _ => r_slen rfl Tryd.underlying9) ?_
    by_cases h10 : ((i : Nat) : Int) < ((t.length : Nat) : Int)
    ·refine vv (ylssT h10) ?_
     refine vm ?_
     refine vg ym ?_
     refine vg ym ?_
     obtain ⟨x11, hx12⟩ : ∃ c, (t)[i]? = some c := ⟨_, List.getElem?_eq_getElem (by omega)⟩
     refine vg (v := .int .u8 ((x11.toNat : Nat) : Int)) (y_index (q := .int .i64 ((i : Nat) : Int)) rfl rfl rfl (r_sidx Tryd.underlying9 hx12)) ?_
     by_cases h13 : ((x11.toNat : Nat) : Int) = 10
     ·refine vg (yneqF h13) ?_
      refine vv ypT ?_
      refine vm ?_
      refine vg ym ?_
      refine vg ym ?_
      refine vg (v := .int .i64 ((t.length : Nat) : Int)) (y_builtin (vs := [str t]) rfl ⟨rfl, trivial⟩ fun _ => r_slen rfl Tryd.underlying9) ?_
      refine vg (deqlF (h := by omega)) ?_
      refine vg ym ?_
      iterate 4 refine vs ?_
      refine vg ypF ?_
      refine vv ypF ?_
      refine qk [0, 2, 3, 4, 5, 6, 7, 39] ?_
      refine x_tnktssr (vm ?_)
      refine vv (v := .int .i64 ((n : Nat) : Int)) (y_builtin (vs := [.slice A3 n c3]) rfl ⟨rfl, trivial⟩ fun _ => r_len rfl Tryd.underlying22) ?_
      by_cases h14 : ((n : Nat) : Int) = 100000
      ·refine vv (yeqlT h14) ?_
       refine qk [0, 2, 3, 4, 5, 6, 7, 42] ?_
       refine x_tysr (va ?_)
       iterate 2 refine va ?_
       refine qk [2, 3, 4] ?_
       refine wQ_then (wC_ret (wQ_then_ret (wQ_blk_ret (wQ_then_ret (wQ_then_ret (wQ_blk_ret (wQ_then_ret (wQ_post (rs := [.tmp 2, .tmp 3, .tmp 4]) (vs := [.slice none 0 0, .int .i64 100000, .int .i64 14]) rfl ⟨rfl, rfl, rfl, trivial⟩ ?_))))))))
       rw [hi8.full1 hx12 (u8_10 h13) (by omega)]
       exact ReadPost.none S4
      ·refine vv (yeqlF h14) ?_
       refine qk [0, 2, 3, 4, 5, 6, 7, 42] ?_
       refine wQ_then (wC_cond_f rfl (wC_skip (wQ_then (wC_seq ?_))))
       have hsl := segU_len (t := t) (f := f) (i := i)
       refine wC_region (vm ?_)
       iterate 2 refine vm ?_
       refine vv (v := str (segU t f i)) (y_slice rfl rfl (evo_s rfl) (evo_s rfl) evo_n (r_ssl Tryd.underlying9 (by omega) (by omega) rfl)) ?_
       refine cab en19 S4 (lineAct_calls (segU t f i) (by omega) _) ?_; intro w15 S16; clear S4
       refine na (row := #[.int .i64 0, .int .i64 0, .int .i64 0, .int .i64 0, .int .i64 0, .int .i64 0, .int .i64 0, .int .i64 0, .int .i64 0, .int .i64 0, .int .i64 0]) S16 Tryd.zeroValue41 ?_; intro b18 w19 S20; clear S16
       refine sa 0 S20 inf41 ?_; intro w21 S22; clear S20
       refine qk [0, 2, 3, 4, 5, 7, 8] ?_
       refine x_tssr (vv (yfa 0 fa41_0) ?_)
       refine vv (ylc 0 S22 Tryd.underlying3) ?_
       by_cases h23 : (lineO (segU t f i)).kd = 0
       ·refine vv (yeqlT h23) ?_
        refine vm ?_
        iterate 4 refine vs ?_
        refine vv ypT ?_
        refine qk [0, 2, 3, 4, 5, 7, 8, 56] ?_
        refine x_tysr (vm ?_)
        refine vv (v := .int .i64 ((n : Nat) : Int)) (y_builtin (vs := [.slice A3 n c3]) rfl ⟨rfl, trivial⟩ fun _ => r_len rfl Tryd.underlying22) ?_
        iterate 3 refine va ?_
        refine qk [2, 3, 4] ?_
        refine wQ_then (wC_ret (wQ_then_ret (wQ_blk_ret (wQ_then_ret (wQ_then_ret (wQ_blk_ret (wQ_then_ret (wQ_post (rs := [.tmp 2, .tmp 3, .tmp 4]) (vs := [.slice none 0 0, .int .i64 ((n : Nat) : Int), .int .i64 3]) rfl ⟨rfl, rfl, rfl, trivial⟩ ?_))))))))
        rw [hi8.bad1 hx12 (u8_10 h13) (by omega) (lineO_kd h23), ← hi6]
        exact ReadPost.none S22
       ·refine vv (yeqlF h23) ?_
        refine vm ?_
        refine vg ym ?_
        refine vg ym ?_
        refine vg (v := .int .i64 ((t.length : Nat) : Int)) (y_builtin (vs := [str t]) rfl ⟨rfl, trivial⟩ fun _ => r_slen rfl Tryd.underlying9) ?_
        refine vg (deqlF (h := by omega)) ?_
        refine vv ypF ?_
        refine qk [0, 2, 3, 4, 5, 7, 8, 56] ?_
        refine x_tnktsr (vm ?_)
        refine vv (ylr 0 S22 Tryd.underlying41 inf41) ?_
        refine wL_new (V := fun b => .slice (some ⟨b, 0, none⟩) 1 1) (row := #[.int .i64 ((lineO (segU t f i)).kd), .int .i64 ((lineO (segU t f i)).nd), .int .i64 ((lineO (segU t f i)).qu), .int .i64 ((lineO (segU t f i)).at_), .int .i64 ((lineO (segU t f i)).kp), .int .i64 ((lineO (segU t f i)).ek), .int .i64 ((lineO (segU t f i)).ep), .int .i64 ((lineO (segU t f i)).ei), .int .i64 ((lineO (segU t f i)).eb), .int .i64 ((lineO (segU t f i)).eh), .int .i64 ((lineO (segU t f i)).en)]) (t := 41) S22 (wn rfl) rfl rfl (d_buildSlice (vs := [(0, .agg #[.int .i64 ((lineO (segU t f i)).kd), .int .i64 ((lineO (segU t f i)).nd), .int .i64 ((lineO (segU t f i)).qu), .int .i64 ((lineO (segU t f i)).at_), .int .i64 ((lineO (segU t f i)).kp), .int .i64 ((lineO (segU t f i)).ek), .int .i64 ((lineO (segU t f i)).ep), .int .i64 ((lineO (segU t f i)).ei), .int .i64 ((lineO (segU t f i)).eb), .int .i64 ((lineO (segU t f i)).eh), .int .i64 ((lineO (segU t f i)).en)])]) rfl ⟨rfl, rfl, trivial⟩ (by kernel_rfl)) ?_; intro b24 w25 S26; clear S22
        refine wL_append (news := [.int .i64 ((lineO (segU t f i)).kd), .int .i64 ((lineO (segU t f i)).nd), .int .i64 ((lineO (segU t f i)).qu), .int .i64 ((lineO (segU t f i)).at_), .int .i64 ((lineO (segU t f i)).kp), .int .i64 ((lineO (segU t f i)).ek), .int .i64 ((lineO (segU t f i)).ep), .int .i64 ((lineO (segU t f i)).ei), .int .i64 ((lineO (segU t f i)).eb), .int .i64 ((lineO (segU t f i)).eh), .int .i64 ((lineO (segU t f i)).en)]) (xs' := (L ++ [lineO (segU t f i)]).flatMap Ac.cells) 2 S26 (wn rfl) rfl rfl rfl rfl rfl rfl (St.bld (xs := [.int .i64 ((lineO (segU t f i)).kd), .int .i64 ((lineO (segU t f i)).nd), .int .i64 ((lineO (segU t f i)).qu), .int .i64 ((lineO (segU t f i)).at_), .int .i64 ((lineO (segU t f i)).kp), .int .i64 ((lineO (segU t f i)).ek), .int .i64 ((lineO (segU t f i)).ep), .int .i64 ((lineO (segU t f i)).ei), .int .i64 ((lineO (segU t f i)).eb), .int .i64 ((lineO (segU t f i)).eh), .int .i64 ((lineO (segU t f i)).en)]) 0 S26 rfl rfl rfl) Tryd.underlying22 infz41 rfl (by decide) (oneAll rfl) (by simp only [maxLen]; omega) (by omega) (by simp [Ac.cells]) ?_; intro A27 c28 w29 hc31 hm32 S30; clear S26
        change St _ _ _ [_, _, .own 41 11 (.slice A27 (n + 1) c28) (n + 1) ((L ++ [lineO (segU t f i)]).flatMap Ac.cells)] at S30
        refine va ?_
        refine qk [0, 2, 3, 4, 5, 7] ?_
        refine x_tr (vm ?_)
        refine vv (v := .int .i64 ((i + 1 : Nat) : Int)) (y_binop rfl rfl rfl (r_add (by omega) (by omega))) ?_
        refine va ?_
        refine qk [0, 2, 3, 4, 5, 7, 6] ?_
        refine wQ_blk_n (wQ_then (wC_region (vm ?_)))
        refine vv (v := .int .i64 ((i + 1 : Nat) : Int)) (y_binop rfl rfl rfl (r_add (by omega) (by omega))) ?_
        refine va ?_
        refine qk [0, 2, 3, 4, 5, 7, 6] ?_
        have S33 : St _ _ _ [_] := S30.dels [1, 0]; clear S30
        refine wQ_round (L ++ [lineO (segU t f i)], n + 1, A27, c28, i + 1, i + 1) ?_ ⟨rfl, rfl, rfl, rfl, rfl, rfl, rfl, trivial⟩ (by first | omega | (dsimp only; omega))
        exact ⟨(by dsimp only; omega), (by dsimp only; rw [List.length_append, List.length_singleton]; omega), (by dsimp only; rw [List.length_append, List.length_singleton]; omega), (RInv.next hi8 hx12 (u8_10 h13) (by omega) (lineO_some h23)), S33⟩
     ·refine vg (yneqT h13) ?_
      refine vv ypT ?_
      refine vm ?_
      iterate 10 refine vs ?_
      refine vv ypT ?_
      refine qk [0, 2, 3, 4, 5, 6, 7, 39] ?_
      refine wQ_then (wC_cond_t rfl (wC_exit (wQ_then_exit (wQ_blk_same (wQ_then (wC_region (vm ?_)))))))
      refine vv (v := .int .i64 ((i + 1 : Nat) : Int)) (y_binop rfl rfl rfl (r_add (by omega) (by omega))) ?_
      refine va ?_
      refine qk [0, 2, 3, 4, 5, 6, 7] ?_
      refine wQ_round (L, n, A3, c3, f, i + 1) ?_ ⟨rfl, rfl, rfl, rfl, rfl, rfl, rfl, trivial⟩ (by first | omega | (dsimp only; omega))
      exact ⟨(by dsimp only; omega), (by dsimp only; omega), (by dsimp only; omega), (RInv.skip hi8 hx12 (fun e => h13 (by rw [e]; rfl))), S4⟩
    ·refine vv (ylssF h10) ?_
     refine vm ?_
     iterate 4 refine vs ?_
     refine vv ypF ?_
     refine vm ?_
     refine vg ym ?_
     refine vg ym ?_
     refine vg (v := .int .i64 ((t.length : Nat) : Int)) (y_builtin (vs := [str t]) rfl ⟨rfl, trivial⟩ fun _ => r_slen rfl Tryd.underlying9) ?_
     refine vg (deqlT (h := by omega)) ?_
     refine vg ym ?_
     refine vg ym ?_
     refine vg ym ?_
     refine vg (v := .int .i64 ((t.length : Nat) : Int)) (y_builtin (vs := [str t]) rfl ⟨rfl, trivial⟩ fun _ => r_slen rfl Tryd.underlying9) ?_
     by_cases h34 : ((f : Nat) : Int) = ((t.length : Nat) : Int)
     ·refine vg (yeqlT h34) ?_
      refine vg ypT ?_
      refine vv ypF ?_
      refine qk [0, 2, 3, 4, 5, 6, 7, 39] ?_
      refine wQ_then (wC_cond_t rfl (wC_exit (wQ_then_exit (wQ_blk_same (wQ_then (wC_region (vm ?_)))))))
      refine vv (v := .int .i64 ((i + 1 : Nat) : Int)) (y_binop rfl rfl rfl (r_add (by omega) (by omega))) ?_
      refine va ?_
      refine qk [0, 2, 3, 4, 5, 6, 7] ?_
      refine wQ_round (L, n, A3, c3, f, i + 1) ?_ ⟨rfl, rfl, rfl, rfl, rfl, rfl, rfl, trivial⟩ (by first | omega | (dsimp only; omega))
      exact ⟨(by dsimp only; omega), (by dsimp only; omega), (by dsimp only; omega), (by dsimp only; exact RInv.done hi8 (by omega) (by omega)), S4⟩
     ·refine vg (yeqlF h34) ?_
      refine vg ypT ?_
      refine vv ypF ?_
      refine qk [0, 2, 3, 4, 5, 6, 7, 39] ?_
      refine x_tnktssr (vm ?_)
      refine vv (v := .int .i64 ((n : Nat) : Int)) (y_builtin (vs := [.slice A3 n c3]) rfl ⟨rfl, trivial⟩ fun _ => r_len rfl Tryd.underlying22) ?_
      by_cases h35 : ((n : Nat) : Int) = 100000
      ·refine vv (yeqlT h35) ?_
       refine qk [0, 2, 3, 4, 5, 6, 7, 42] ?_
       refine x_tysr (va ?_)
       iterate 2 refine va ?_
       refine qk [2, 3, 4] ?_
       refine wQ_then (wC_ret (wQ_then_ret (wQ_blk_ret (wQ_then_ret (wQ_then_ret (wQ_blk_ret (wQ_then_ret (wQ_post (rs := [.tmp 2, .tmp 3, .tmp 4]) (vs := [.slice none 0 0, .int .i64 100000, .int .i64 14]) rfl ⟨rfl, rfl, rfl, trivial⟩ ?_))))))))
       rw [hi8.full2 (by omega) (by omega) (by omega)]
       exact ReadPost.none S4
      ·refine vv (yeqlF h35) ?_
       refine qk [0, 2, 3, 4, 5, 6, 7, 42] ?_
       refine wQ_then (wC_cond_f rfl (wC_skip (wQ_then (wC_seq ?_))))
       have hsl := segU_len (t := t) (f := f) (i := i)
       refine wC_region (vm ?_)
       iterate 2 refine vm ?_
       refine vv (v := str (segU t f i)) (y_slice rfl rfl (evo_s rfl) (evo_s rfl) evo_n (r_ssl Tryd.underlying9 (by omega) (by omega) rfl)) ?_
       refine cab en19 S4 (lineAct_calls (segU t f i) (by omega) _) ?_; intro w36 S37; clear S4
       refine na (row := #[.int .i64 0, .int .i64 0, .int .i64 0, .int .i64 0, .int .i64 0, .int .i64 0, .int .i64 0, .int .i64 0, .int .i64 0, .int .i64 0, .int .i64 0]) S37 Tryd.zeroValue41 ?_; intro b39 w40 S41; clear S37
       refine sa 0 S41 inf41 ?_; intro w42 S43; clear S41
       refine qk [0, 2, 3, 4, 5, 7, 8] ?_
       refine x_tssr (vv (yfa 0 fa41_0) ?_)
       refine vv (ylc 0 S43 Tryd.underlying3) ?_
       by_cases h44 : (lineO (segU t f i)).kd = 0
       ·refine vv (yeqlT h44) ?_
        refine vm ?_
        iterate 4 refine vs ?_
        refine vv ypT ?_
        refine qk [0, 2, 3, 4, 5, 7, 8, 56] ?_
        refine x_tysr (vm ?_)
        refine vv (v := .int .i64 ((n : Nat) : Int)) (y_builtin (vs := [.slice A3 n c3]) rfl ⟨rfl, trivial⟩ fun _ => r_len rfl Tryd.underlying22) ?_
        iterate 3 refine va ?_
        refine qk [2, 3, 4] ?_
        refine wQ_then (wC_ret (wQ_then_ret (wQ_blk_ret (wQ_then_ret (wQ_then_ret (wQ_blk_ret (wQ_then_ret (wQ_post (rs := [.tmp 2, .tmp 3, .tmp 4]) (vs := [.slice none 0 0, .int .i64 ((n : Nat) : Int), .int .i64 3]) rfl ⟨rfl, rfl, rfl, trivial⟩ ?_))))))))
        rw [hi8.bad2 (by omega) (by omega) (by omega), ← hi6]
        exact ReadPost.none S43
       ·refine vv (yeqlF h44) ?_
        refine vm ?_
        refine vg ym ?_
        refine vg ym ?_
        refine vg (v := .int .i64 ((t.length : Nat) : Int)) (y_builtin (vs := [str t]) rfl ⟨rfl, trivial⟩ fun _ => r_slen rfl Tryd.underlying9) ?_
        refine vg (deqlT (h := by omega)) ?_
        refine vv ypF ?_
        refine qk [0, 2, 3, 4, 5, 7, 8, 56] ?_
        refine x_tysr (vm ?_)
        refine vv (v := .int .i64 ((n : Nat) : Int)) (y_builtin (vs := [.slice A3 n c3]) rfl ⟨rfl, trivial⟩ fun _ => r_len rfl Tryd.underlying22) ?_
        iterate 3 refine va ?_
        refine qk [2, 3, 4] ?_
        refine wQ_then (wC_ret (wQ_then_ret (wQ_blk_ret (wQ_then_ret (wQ_then_ret (wQ_blk_ret (wQ_then_ret (wQ_post (rs := [.tmp 2, .tmp 3, .tmp 4]) (vs := [.slice none 0 0, .int .i64 ((n : Nat) : Int), .int .i64 3]) rfl ⟨rfl, rfl, rfl, trivial⟩ ?_))))))))
        rw [hi8.bad2 (by omega) (by omega) (by omega), ← hi6]
        exact ReadPost.none S43
   ·refine vv (yleqF h9) ?_
    refine qk [0, 2, 3, 4, 5, 6, 7, 15] ?_
    refine wQ_then (wC_cond_f rfl (wC_exit (wQ_then_exit (wQ_then_exit (wQ_blk_same (wQ_then (wC_seq (wC_region (vm ?_)))))))))
    iterate 3 refine va ?_
    refine qk [2, 3, 4] ?_
    refine x_te (wQ_post (rs := [.tmp 2, .tmp 3, .tmp 4]) (vs := [.slice A3 n c3, .int .i64 0, .int .i64 0]) rfl ⟨rfl, rfl, rfl, trivial⟩ ?_)
    obtain rfl := hi6
    have S45 := S4.sealAll 0 rfl; clear S4
    change St _ _ _ [.rdo 11 A3 L.length ((L).flatMap Ac.cells)] at S45
    rw [hi8.fin (by omega)]
    exact ⟨_, _, rfl, S45⟩
end Go.Proofs.YtkjlafpafmihaaaDoor

