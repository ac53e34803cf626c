/- Parts of proofs: lemmas on memory, on single functions and on the plain models; no condition of their own. -/
import Derived.Test.YtkjlafpafmihaaaRows
import Derived.WalkKit
import Derived.ProofKit
import Derived.OpenShut
import Derived.SizedLaws
import Derived.WalkSpells
import Derived.WalkLawsBesides
import Derived.Handy
import Derived.Deep.QuietTactic
import Derived.BigQuiet
import Derived.Lib.Hide
import Derived.Maps.AppendAt
import Derived.Deep.AppendLies
import Derived.RegionTactic
import Derived.OwnWalk
import Derived.Laws.Tables
import Derived.Laws.IdiomCopy
import Derived.Lib.SliceRun
import Derived.Deep.RegionLaw
import Derived.Test.YtkjlafpafmihaaaG4eaabf97d977
import Derived.Test.YtkjlafpafmihaaaG570539d87647
import Derived.Test.YtkjlafpafmihaaaG76ddf6bdedad
import Derived.Test.YtkjlafpafmihaaaGf03ab8b1ffd4
set_option linter.unusedVariables false
set_option linter.unusedSimpArgs false

namespace Go.Proofs.Ytkjlafpafmihaaa
open Go.ChangeShapes Go.WideShapes Go.RowKit

/-- 'clear(s)', s a slice of one element of several cells. -/
theorem run_clear_one {P : Program} (w : World) (t e ty : TypeId) (z : Value) (ht : P.underlying t = some (.slice e)) (hv : ∀ w, (zeroValue e).run P w = .ok z w) (hz : 0 < z.cells.size) (h1 : ∀ u ∈ z.cells.toList, u.oneCell' = true) (b o c : Nat)
    (hc : ∀ j, j < z.cells.size → (w.cell? ⟨b, o + j, none⟩).isSome = true) (hf : ∀ j, j < z.cells.size → w.frozen? ⟨b, o + j, none⟩ = false) :
    (Builtin.clear_ #[t] ty #[.slice (some ⟨b, o, none⟩) 1 c]).run P w = .ok (.tuple #[]) (w.setCells b o z.cells.toList) := by
  have hzc : (Builtin.zeroCells z.cells 1).toList = z.cells.toList := by
    simp [Builtin.zeroCells]
    apply List.ext_getElem
    · simp
    · intro i h1 h2
      simp at h1
      simp [Nat.mod_eq_of_lt h1, getElem!_pos z.cells i h1]
  have hst := run_storeCells_cells (P := P) b o z.cells.toList 0 w (by simpa using hc) (by simpa using hf) h1
  simp only [Nat.add_zero] at hst
  simp [Builtin.clear_, run_underlying ht, hv, hzc, hst]

set_option maxRecDepth 100000 in
set_option maxHeartbeats 4000000 in
theorem DelLs_calls (g n c i base : Nat) (xs : List Value) (w : World) (ho : w.ownsRow base 141 4 (.slice (some ⟨g, 0, none⟩) n c) n xs) (h1 : ∀ u ∈ xs, u.oneCell' = true) (hi : i < n) :
    Calls Try.prog 177 #[.slice (some ⟨g, 0, none⟩) n c, .int .i64 i, .int .i64 ((i : Int) + 1)] w fun e w' => e = .returned (.slice (some ⟨g, 0, none⟩) (n - 1) c) ∧ Upd w g w' ∧ w'.ownsRow base 141 4 (.slice (some ⟨g, 0, none⟩) (n - 1) c) (n - 1) (xs.take (i * 4) ++ xs.drop ((i + 1) * 4)) := by
  obtain ⟨hxl, hx2⟩ := ho
  rcases hx2 with ⟨hx2, _⟩ | ⟨g', cap, cur, hv, hg, hh, hnc, hcm, hsz, htk⟩
  · cases hx2
  have hv' : g = g' ∧ c = cap := by
    simp only [Value.slice.injEq, Option.some.injEq, Addr.mk.injEq] at hv
    exact ⟨hv.1.1, hv.2.2⟩
  obtain ⟨rfl, rfl⟩ := hv'
  clear hv
  unfold maxLen at hcm
  obtain ⟨j0, hj0, zj0, zj1, zj2⟩ := info_parts (show (Try.prog.info? 141).map (fun i => (i.zero, i.size, i.bytes)) = some (some (Value.agg #[.int .i64 0, .int .i64 0, .int .i64 0, .int .i64 0]), 4, 4 * 8) by kernel_rfl)
  have hzv : ∀ w, (zeroValue 141).run Try.prog w = .ok (.agg #[.int .i64 0, .int .i64 0, .int .i64 0, .int .i64 0]) w := Try.zeroValue141
  have B0 : Blk w g cur 141 := ⟨hh⟩
  -- the cells that move to the left
  obtain ⟨news, hnews⟩ : ∃ news, news = xs.drop ((i + 1) * 4) := ⟨_, rfl⟩
  have hlen : news.length = (n - (i + 1)) * 4 := by rw [hnews, List.length_drop, hxl, Nat.sub_mul]
  have hcx : ∀ (j : Nat) (u : Value), xs[j]? = some u → cur[j]? = some u := by
    intro j u hu
    have hj : j < n * 4 := by have := (List.getElem?_eq_some_iff.1 hu).1; omega
    rw [← htk, List.getElem?_take_of_lt hj] at hu
    simpa using hu
  obtain ⟨A, hA, hsrc⟩ : ∃ A : Addr, (if c = i + 1 then some (⟨g, 0, none⟩ : Addr) else some ⟨g, (i + 1) * 4, none⟩) = some A ∧ Hid (∀ (t : Nat) (u : Value), news[t]? = some u → w.drew.cell? (A.add t) = some u) := by
    by_cases h : c = i + 1
    · refine ⟨⟨g, 0, none⟩, by simp [h], fun t u hu => ?_⟩
      have h0 : news.length = 0 := by rw [hlen]; omega
      rw [List.length_eq_zero_iff.1 h0] at hu
      simp at hu
    · refine ⟨⟨g, (i + 1) * 4, none⟩, by simp [h], fun t u hu => ?_⟩
      rw [hnews, List.getElem?_drop] at hu
      rw [Go.WideShapes.add_plain]
      exact B0.drew.cell (hcx _ _ hu)
  have s1 : Hid (news.length = (n - (i + 1)) * 4) := hlen
  have s2 : Hid (∀ u ∈ news, u.oneCell' = true) := fun u hu => h1 u (List.mem_of_mem_drop (by rw [hnews] at hu; exact hu))
  have s3 : Hid (∀ t, t < news.length → (w.drew.cell? ⟨g, 0 + i * 4 + t, none⟩).isSome = true ∧ w.drew.frozen? ⟨g, 0 + i * 4 + t, none⟩ = false) := by
    intro t ht
    rw [hlen] at ht
    have hb : 0 + i * 4 + t < cur.size := by rw [hsz]; omega
    exact ⟨by rw [B0.drew.cell (Array.getElem?_eq_getElem hb)]; rfl, B0.drew.free _⟩
  have B1 := blk_setCells news (0 + i * 4) B0.drew
  have hs1 : (setAll cur (0 + i * 4) news).size = c * 4 := by rw [setAll_size, hsz]
  have hcl : Hid (∀ ty, (Builtin.clear_ #[23] ty #[.slice (some ⟨g, (i + (n - (i + 1))) * 4, none⟩) (n - (i + (n - (i + 1)))) (c - (i + (n - (i + 1))))]).run Try.prog (w.drew.setCells g (0 + i * 4) news) = .ok (.tuple #[]) ((w.drew.setCells g (0 + i * 4) news).setCells g ((i + (n - (i + 1))) * 4) (#[.int .i64 0, .int .i64 0, .int .i64 0, .int .i64 0] : Array Value).toList)) := by
    intro ty
    rw [show n - (i + (n - (i + 1))) = 1 by omega]
    refine run_clear_one _ _ 141 ty (.agg #[.int .i64 0, .int .i64 0, .int .i64 0, .int .i64 0]) Try.underlying23 hzv (by simp [Value.cells]) (by simp [Value.cells, Value.oneCell']) g _ _ (fun j hj => ?_) (fun j hj => B1.free _)
    have hj' : j < 4 := by simpa [Value.cells] using hj
    have hb : (i + (n - (i + 1))) * 4 + j < (setAll cur (0 + i * 4) news).size := by rw [hs1]; omega
    rw [B1.cell (Array.getElem?_eq_getElem hb)]
    rfl
  have U : Upd w g ((w.drew.setCells g (0 + i * 4) news).setCells g ((i + (n - (i + 1))) * 4) (#[.int .i64 0, .int .i64 0, .int .i64 0, .int .i64 0] : Array Value).toList) := (upd_drew0 w g).trans ((upd_setCells g _ _ _).trans (upd_setCells g _ _ _))
  have B2 := blk_setCells (#[.int .i64 0, .int .i64 0, .int .i64 0, .int .i64 0] : Array Value).toList ((i + (n - (i + 1))) * 4) B1
  have hl2 : (#[.int .i64 0, .int .i64 0, .int .i64 0, .int .i64 0] : Array Value).toList.length = 4 := rfl
  have hfin : (setAll (setAll cur (0 + i * 4) news) ((i + (n - (i + 1))) * 4) (#[.int .i64 0, .int .i64 0, .int .i64 0, .int .i64 0] : Array Value).toList).toList.take ((n - 1) * 4) = xs.take (i * 4) ++ news := by
    rw [setAll_list _ _ _ (by rw [hs1, hl2]; omega), setAll_list _ _ _ (by rw [hlen, hsz]; omega)]
    have e1 : (n - 1) * 4 = (i + (n - (i + 1))) * 4 := by congr 1; omega
    have a1 : (cur.toList.take (0 + i * 4)).length = i * 4 := by simp [hsz]; omega
    rw [e1, List.append_assoc, List.take_append_of_le_length (by simp [hlen, hsz]; omega), List.take_take, Nat.min_self]
    rw [List.take_append_of_le_length (by simp [hlen, hsz]; omega), List.take_of_length_le (by simp [hlen, hsz]; omega)]
    congr 1
    rw [← htk, List.take_take, Nat.zero_add, Nat.min_eq_left (by omega)]
  have HF : Hid (((w.drew.setCells g (0 + i * 4) news).setCells g ((i + (n - (i + 1))) * 4) (#[.int .i64 0, .int .i64 0, .int .i64 0, .int .i64 0] : Array Value).toList).ownsRow base 141 4 (.slice (some ⟨g, 0, none⟩) (n - 1) c) (n - 1) (xs.take (i * 4) ++ news)) := by
    refine ⟨by rw [List.length_append, List.length_take, hlen, hxl]; omega, .inr ⟨g, c, _, rfl, hg, B2.blk, by omega, hcm, by rw [setAll_size, hs1], hfin⟩⟩
  rw [← hnews]
  have HU := Lib.hid U
  clear hnews hlen hcx B0 B1 B2 hs1 hfin U hl2 hh hsz htk hxl h1 hg zj0 zj2 hzv
  have hic : i ≤ c := by omega
  have hjc : i + 1 ≤ c := by omega
  have t1 : ((i : Int) == (i : Int) + 1) = false := by rw [beq_eq_false_iff_ne]; omega
  have t2 : 0 ≤ (i : Int) + 1 := by omega
  have t3 : (i : Int) + 1 ≤ (n : Int) := by omega
  obtain ⟨W1, hW⟩ : ∃ W1, Hid (W1 = w.drew.setCells g (0 + i * 4) news) := ⟨_, Lib.hid rfl⟩
  rw [← hW.out] at hcl HF HU
  generalize hZ : (#[.int .i64 0, .int .i64 0, .int .i64 0, .int .i64 0] : Array Value).toList = zs at hcl HF HU
  clear hZ
  have hcl := hcl.out
  go_enter Try.func177, Try.ntmps177
  go_wp2_with fail
  go_region_law (refine step_append_room rfl (.tmp 22) (.tmp 25) 23 rfl 141 j0 4 Try.underlying23 hj0 zj1 g 0 i c (by simp [Act.eval, Act.put]) A (n - (i + 1)) (c - (i + 1)) news (by simp [Act.eval, Act.put]) s1.out hsrc.out s2.out (by omega) s3.out ?_; rw [← hW.out])
  go_wp2_with fail
  go_ret
  refine ⟨?_, HU.out, HF.out⟩
  simp
  omega
end Go.Proofs.Ytkjlafpafmihaaa

