/- slices.Delete(s, i, i + 1) at structs of several cells: one element taken out of a row of the call's own. -/
import Derived.Test.YtkjlafpafmihaaaStore
import Derived.Lib.SliceRun
import Derived.Deep.RegionLaw
import Derived.Laws.IdiomCopy
namespace Go.Proofs.Ytkjlafpafmihaaa
open Go.ChangeShapes Go.WideShapes Go.RowKit

def setAll : Array Value → Nat → List Value → Array Value
  | cur, _, [] => cur
  | cur, o, v :: vs => setAll (cur.setIfInBounds o v) (o + 1) vs
theorem setAll_size : ∀ (vs : List Value) (cur : Array Value) (o : Nat), (setAll cur o vs).size = cur.size
  | [], _, _ => rfl
  | v :: vs, cur, o => by rw [setAll, setAll_size vs]; simp
theorem setAll_get : ∀ (vs : List Value) (cur : Array Value) (o k : Nat), o + vs.length ≤ cur.size → (setAll cur o vs)[k]? = if k < o then cur[k]? else if k < o + vs.length then vs[k - o]? else cur[k]?
  | [], cur, o, k, _ => by
    simp only [setAll, List.length_nil, Nat.add_zero]
    split
    · rfl
    · rfl
  | v :: vs, cur, o, k, h => by
    simp only [List.length_cons] at h
    rw [setAll, setAll_get vs _ _ _ (by simp; omega)]
    by_cases h1 : k < o
    · rw [if_pos (by omega), if_pos h1, Array.getElem?_setIfInBounds_ne (by omega)]
    · by_cases h2 : k = o
      · subst h2
        rw [if_pos (by omega), if_neg h1, if_pos (by simp)]
        rw [Array.getElem?_setIfInBounds_self_of_lt (by omega)]
        simp
      · rw [if_neg (by omega), if_neg h1]
        by_cases h3 : k < o + 1 + vs.length
        · rw [if_pos h3, if_pos (by simp; omega), show k - o = (k - (o + 1)) + 1 by omega]
          simp
        · rw [if_neg h3, if_neg (by simp; omega), Array.getElem?_setIfInBounds_ne (by omega)]
theorem setAll_list (vs : List Value) (cur : Array Value) (o : Nat) (h : o + vs.length ≤ cur.size) : (setAll cur o vs).toList = cur.toList.take o ++ vs ++ cur.toList.drop (o + vs.length) := by
  apply List.ext_getElem?
  intro k
  rw [Array.getElem?_toList, setAll_get vs cur o k h]
  have hl : (cur.toList.take o).length = o := by simp; omega
  by_cases h1 : k < o
  · rw [if_pos h1, List.append_assoc, List.getElem?_append_left (by omega), List.getElem?_take_of_lt h1]
    simp
  · rw [if_neg h1]
    by_cases h2 : k < o + vs.length
    · rw [if_pos h2, List.append_assoc, List.getElem?_append_right (by omega), List.getElem?_append_left (by omega), hl]
    · rw [if_neg h2, List.getElem?_append_right (by simp; omega), List.getElem?_drop]
      simp only [List.length_append, hl]
      rw [show o + vs.length + (k - (o + vs.length)) = k by omega]
      simp
theorem blk_setCells {t : TypeId} : ∀ (vs : List Value) (o : Nat) {w : World} {g : Nat} {cur : Array Value}, Blk w g cur t → Blk (w.setCells g o vs) g (setAll cur o vs) t
  | [], _, _, _, _, h => h
  | v :: vs, o, _, _, _, h => blk_setCells vs (o + 1) (h.set_ o v)
theorem Upd.refl (w : World) (g : Nat) : Upd w g w := ⟨rfl, rfl, rfl, rfl, fun _ _ => rfl⟩
theorem upd_setCells (g : Nat) : ∀ (vs : List Value) (o : Nat) (w : World), Upd w g (w.setCells g o vs)
  | [], _, w => Upd.refl w g
  | v :: vs, o, w => (upd_cell w g o v).trans (upd_setCells g vs (o + 1) _)
theorem upd_drew0 (w : World) (g : Nat) : Upd w g w.drew := ⟨rfl, rfl, rfl, rfl, fun _ _ => rfl⟩

/-- 'clear(s)', s a slice of one element of several cells. -/
theorem run_clear_one {P : Program} (w : World) (t e ty : TypeId) (z : Value) (ht : P.underlying t = some (.slice e)) (hv : ∀ w, (zeroValue e).run P w = .ok z w) (hz : 0 < z.cells.size) (h1 : ∀ u ∈ z.cells.toList, u.oneCell' = true) (b o c : Nat)
    (hc : ∀ j, j < z.cells.size → (w.cell? ⟨b, o + j, none⟩).isSome = true) (hf : ∀ j, j < z.cells.size → w.frozen? ⟨b, o + j, none⟩ = false) :
    (Builtin.clear_ #[t] ty #[.slice (some ⟨b, o, none⟩) 1 c]).run P w = .ok (.tuple #[]) (w.setCells b o z.cells.toList) := by
  have hzc : (Builtin.zeroCells z.cells 1).toList = z.cells.toList := by
    simp [Builtin.zeroCells]
    apply List.ext_getElem
    · simp
    · intro i h1 h2
      simp at h1
      simp [Nat.mod_eq_of_lt h1, getElem!_pos z.cells i h1]
  have hst := run_storeCells_cells (P := P) b o z.cells.toList 0 w (by simpa using hc) (by simpa using hf) h1
  simp only [Nat.add_zero] at hst
  simp [Builtin.clear_, run_underlying ht, hv, hzc, hst]

set_option maxRecDepth 100000 in
set_option maxHeartbeats 4000000 in
theorem DelEv_calls (g n c i base : Nat) (xs : List Value) (w : World) (ho : w.ownsRow base 37 6 (.slice (some ⟨g, 0, none⟩) n c) n xs) (h1 : ∀ u ∈ xs, u.oneCell' = true) (hi : i < n) :
    Calls Try.prog 134 #[.slice (some ⟨g, 0, none⟩) n c, .int .i64 i, .int .i64 ((i : Int) + 1)] w fun e w' => e = .returned (.slice (some ⟨g, 0, none⟩) (n - 1) c) ∧ Upd w g w' ∧ w'.ownsRow base 37 6 (.slice (some ⟨g, 0, none⟩) (n - 1) c) (n - 1) (xs.take (i * 6) ++ xs.drop ((i + 1) * 6)) := by
  obtain ⟨hxl, hx2⟩ := ho
  rcases hx2 with ⟨hx2, _⟩ | ⟨g', cap, cur, hv, hg, hh, hnc, hcm, hsz, htk⟩
  · cases hx2
  have hv' : g = g' ∧ c = cap := by
    simp only [Value.slice.injEq, Option.some.injEq, Addr.mk.injEq] at hv
    exact ⟨hv.1.1, hv.2.2⟩
  obtain ⟨rfl, rfl⟩ := hv'
  clear hv
  unfold maxLen at hcm
  obtain ⟨j0, hj0, zj0, zj1, zj2⟩ := info_parts (show (Try.prog.info? 37).map (fun i => (i.zero, i.size, i.bytes)) = some (some (Value.agg #[.int .i64 0, .int .i64 0, .int .i64 0, .int .i64 0, .int .i64 0, .int .i64 0]), 6, 6 * 8) by kernel_rfl)
  have hzv : ∀ w, (zeroValue 37).run Try.prog w = .ok (.agg #[.int .i64 0, .int .i64 0, .int .i64 0, .int .i64 0, .int .i64 0, .int .i64 0]) w := Try.zeroValue37
  have B0 : Blk w g cur 37 := ⟨hh⟩
  -- the cells that move to the left
  obtain ⟨news, hnews⟩ : ∃ news, news = xs.drop ((i + 1) * 6) := ⟨_, rfl⟩
  have hlen : news.length = (n - (i + 1)) * 6 := by rw [hnews, List.length_drop, hxl, Nat.sub_mul]
  have hcx : ∀ (j : Nat) (u : Value), xs[j]? = some u → cur[j]? = some u := by
    intro j u hu
    have hj : j < n * 6 := by have := (List.getElem?_eq_some_iff.1 hu).1; omega
    rw [← htk, List.getElem?_take_of_lt hj] at hu
    simpa using hu
  obtain ⟨A, hA, hsrc⟩ : ∃ A : Addr, (if c = i + 1 then some (⟨g, 0, none⟩ : Addr) else some ⟨g, (i + 1) * 6, none⟩) = some A ∧ Hid (∀ (t : Nat) (u : Value), news[t]? = some u → w.drew.cell? (A.add t) = some u) := by
    by_cases h : c = i + 1
    · refine ⟨⟨g, 0, none⟩, by simp [h], fun t u hu => ?_⟩
      have h0 : news.length = 0 := by rw [hlen]; omega
      rw [List.length_eq_zero_iff.1 h0] at hu
      simp at hu
    · refine ⟨⟨g, (i + 1) * 6, none⟩, by simp [h], fun t u hu => ?_⟩
      rw [hnews, List.getElem?_drop] at hu
      rw [Go.WideShapes.add_plain]
      exact B0.drew.cell (hcx _ _ hu)
  have s1 : Hid (news.length = (n - (i + 1)) * 6) := hlen
  have s2 : Hid (∀ u ∈ news, u.oneCell' = true) := fun u hu => h1 u (List.mem_of_mem_drop (by rw [hnews] at hu; exact hu))
  have s3 : Hid (∀ t, t < news.length → (w.drew.cell? ⟨g, 0 + i * 6 + t, none⟩).isSome = true ∧ w.drew.frozen? ⟨g, 0 + i * 6 + t, none⟩ = false) := by
    intro t ht
    rw [hlen] at ht
    have hb : 0 + i * 6 + t < cur.size := by rw [hsz]; omega
    exact ⟨by rw [B0.drew.cell (Array.getElem?_eq_getElem hb)]; rfl, B0.drew.free _⟩
  have B1 := blk_setCells news (0 + i * 6) B0.drew
  have hs1 : (setAll cur (0 + i * 6) news).size = c * 6 := by rw [setAll_size, hsz]
  have hcl : Hid (∀ ty, (Builtin.clear_ #[57] ty #[.slice (some ⟨g, (i + (n - (i + 1))) * 6, none⟩) (n - (i + (n - (i + 1)))) (c - (i + (n - (i + 1))))]).run Try.prog (w.drew.setCells g (0 + i * 6) news) = .ok (.tuple #[]) ((w.drew.setCells g (0 + i * 6) news).setCells g ((i + (n - (i + 1))) * 6) (#[.int .i64 0, .int .i64 0, .int .i64 0, .int .i64 0, .int .i64 0, .int .i64 0] : Array Value).toList)) := by
    intro ty
    rw [show n - (i + (n - (i + 1))) = 1 by omega]
    refine run_clear_one _ _ 37 ty (.agg #[.int .i64 0, .int .i64 0, .int .i64 0, .int .i64 0, .int .i64 0, .int .i64 0]) Try.underlying57 hzv (by simp [Value.cells]) (by simp [Value.cells, Value.oneCell']) g _ _ (fun j hj => ?_) (fun j hj => B1.free _)
    have hj' : j < 6 := by simpa [Value.cells] using hj
    have hb : (i + (n - (i + 1))) * 6 + j < (setAll cur (0 + i * 6) news).size := by rw [hs1]; omega
    rw [B1.cell (Array.getElem?_eq_getElem hb)]
    rfl
  have U : Upd w g ((w.drew.setCells g (0 + i * 6) news).setCells g ((i + (n - (i + 1))) * 6) (#[.int .i64 0, .int .i64 0, .int .i64 0, .int .i64 0, .int .i64 0, .int .i64 0] : Array Value).toList) := (upd_drew0 w g).trans ((upd_setCells g _ _ _).trans (upd_setCells g _ _ _))
  have B2 := blk_setCells (#[.int .i64 0, .int .i64 0, .int .i64 0, .int .i64 0, .int .i64 0, .int .i64 0] : Array Value).toList ((i + (n - (i + 1))) * 6) B1
  have hl2 : (#[.int .i64 0, .int .i64 0, .int .i64 0, .int .i64 0, .int .i64 0, .int .i64 0] : Array Value).toList.length = 6 := rfl
  have hfin : (setAll (setAll cur (0 + i * 6) news) ((i + (n - (i + 1))) * 6) (#[.int .i64 0, .int .i64 0, .int .i64 0, .int .i64 0, .int .i64 0, .int .i64 0] : Array Value).toList).toList.take ((n - 1) * 6) = xs.take (i * 6) ++ news := by
    rw [setAll_list _ _ _ (by rw [hs1, hl2]; omega), setAll_list _ _ _ (by rw [hlen, hsz]; omega)]
    have e1 : (n - 1) * 6 = (i + (n - (i + 1))) * 6 := by congr 1; omega
    have a1 : (cur.toList.take (0 + i * 6)).length = i * 6 := by simp [hsz]; omega
    rw [e1, List.append_assoc, List.take_append_of_le_length (by simp [hlen, hsz]; omega), List.take_take, Nat.min_self]
    rw [List.take_append_of_le_length (by simp [hlen, hsz]; omega), List.take_of_length_le (by simp [hlen, hsz]; omega)]
    congr 1
    rw [← htk, List.take_take, Nat.zero_add, Nat.min_eq_left (by omega)]
  have HF : Hid (((w.drew.setCells g (0 + i * 6) news).setCells g ((i + (n - (i + 1))) * 6) (#[.int .i64 0, .int .i64 0, .int .i64 0, .int .i64 0, .int .i64 0, .int .i64 0] : Array Value).toList).ownsRow base 37 6 (.slice (some ⟨g, 0, none⟩) (n - 1) c) (n - 1) (xs.take (i * 6) ++ news)) := by
    refine ⟨by rw [List.length_append, List.length_take, hlen, hxl]; omega, .inr ⟨g, c, _, rfl, hg, B2.blk, by omega, hcm, by rw [setAll_size, hs1], hfin⟩⟩
  rw [← hnews]
  have HU := Lib.hid U
  clear hnews hlen hcx B0 B1 B2 hs1 hfin U hl2 hh hsz htk hxl h1 hg zj0 zj2 hzv
  have hic : i ≤ c := by omega
  have hjc : i + 1 ≤ c := by omega
  have t1 : ((i : Int) == (i : Int) + 1) = false := by rw [beq_eq_false_iff_ne]; omega
  have t2 : 0 ≤ (i : Int) + 1 := by omega
  have t3 : (i : Int) + 1 ≤ (n : Int) := by omega
  obtain ⟨W1, hW⟩ : ∃ W1, Hid (W1 = w.drew.setCells g (0 + i * 6) news) := ⟨_, Lib.hid rfl⟩
  rw [← hW.out] at hcl HF HU
  generalize hZ : (#[.int .i64 0, .int .i64 0, .int .i64 0, .int .i64 0, .int .i64 0, .int .i64 0] : Array Value).toList = zs at hcl HF HU
  clear hZ
  have hcl := hcl.out
  go_enter Try.func134, Try.ntmps134
  go_wp2_with fail
  go_region_law (refine step_append_room rfl (.tmp 22) (.tmp 25) 57 rfl 37 j0 6 Try.underlying57 hj0 zj1 g 0 i c (by simp [Act.eval, Act.put]) A (n - (i + 1)) (c - (i + 1)) news (by simp [Act.eval, Act.put]) s1.out hsrc.out s2.out (by omega) s3.out ?_; rw [← hW.out])
  go_wp2_with fail
  go_ret
  refine ⟨?_, HU.out, HF.out⟩
  simp
  omega
set_option maxRecDepth 100000 in
set_option maxHeartbeats 4000000 in
theorem DelLs_calls (g n c i base : Nat) (xs : List Value) (w : World) (ho : w.ownsRow base 141 4 (.slice (some ⟨g, 0, none⟩) n c) n xs) (h1 : ∀ u ∈ xs, u.oneCell' = true) (hi : i < n) :
    Calls Try.prog 177 #[.slice (some ⟨g, 0, none⟩) n c, .int .i64 i, .int .i64 ((i : Int) + 1)] w fun e w' => e = .returned (.slice (some ⟨g, 0, none⟩) (n - 1) c) ∧ Upd w g w' ∧ w'.ownsRow base 141 4 (.slice (some ⟨g, 0, none⟩) (n - 1) c) (n - 1) (xs.take (i * 4) ++ xs.drop ((i + 1) * 4)) := by
  obtain ⟨hxl, hx2⟩ := ho
  rcases hx2 with ⟨hx2, _⟩ | ⟨g', cap, cur, hv, hg, hh, hnc, hcm, hsz, htk⟩
  · cases hx2
  have hv' : g = g' ∧ c = cap := by
    simp only [Value.slice.injEq, Option.some.injEq, Addr.mk.injEq] at hv
    exact ⟨hv.1.1, hv.2.2⟩
  obtain ⟨rfl, rfl⟩ := hv'
  clear hv
  unfold maxLen at hcm
  obtain ⟨j0, hj0, zj0, zj1, zj2⟩ := info_parts (show (Try.prog.info? 141).map (fun i => (i.zero, i.size, i.bytes)) = some (some (Value.agg #[.int .i64 0, .int .i64 0, .int .i64 0, .int .i64 0]), 4, 4 * 8) by kernel_rfl)
  have hzv : ∀ w, (zeroValue 141).run Try.prog w = .ok (.agg #[.int .i64 0, .int .i64 0, .int .i64 0, .int .i64 0]) w := Try.zeroValue141
  have B0 : Blk w g cur 141 := ⟨hh⟩
  -- the cells that move to the left
  obtain ⟨news, hnews⟩ : ∃ news, news = xs.drop ((i + 1) * 4) := ⟨_, rfl⟩
  have hlen : news.length = (n - (i + 1)) * 4 := by rw [hnews, List.length_drop, hxl, Nat.sub_mul]
  have hcx : ∀ (j : Nat) (u : Value), xs[j]? = some u → cur[j]? = some u := by
    intro j u hu
    have hj : j < n * 4 := by have := (List.getElem?_eq_some_iff.1 hu).1; omega
    rw [← htk, List.getElem?_take_of_lt hj] at hu
    simpa using hu
  obtain ⟨A, hA, hsrc⟩ : ∃ A : Addr, (if c = i + 1 then some (⟨g, 0, none⟩ : Addr) else some ⟨g, (i + 1) * 4, none⟩) = some A ∧ Hid (∀ (t : Nat) (u : Value), news[t]? = some u → w.drew.cell? (A.add t) = some u) := by
    by_cases h : c = i + 1
    · refine ⟨⟨g, 0, none⟩, by simp [h], fun t u hu => ?_⟩
      have h0 : news.length = 0 := by rw [hlen]; omega
      rw [List.length_eq_zero_iff.1 h0] at hu
      simp at hu
    · refine ⟨⟨g, (i + 1) * 4, none⟩, by simp [h], fun t u hu => ?_⟩
      rw [hnews, List.getElem?_drop] at hu
      rw [Go.WideShapes.add_plain]
      exact B0.drew.cell (hcx _ _ hu)
  have s1 : Hid (news.length = (n - (i + 1)) * 4) := hlen
  have s2 : Hid (∀ u ∈ news, u.oneCell' = true) := fun u hu => h1 u (List.mem_of_mem_drop (by rw [hnews] at hu; exact hu))
  have s3 : Hid (∀ t, t < news.length → (w.drew.cell? ⟨g, 0 + i * 4 + t, none⟩).isSome = true ∧ w.drew.frozen? ⟨g, 0 + i * 4 + t, none⟩ = false) := by
    intro t ht
    rw [hlen] at ht
    have hb : 0 + i * 4 + t < cur.size := by rw [hsz]; omega
    exact ⟨by rw [B0.drew.cell (Array.getElem?_eq_getElem hb)]; rfl, B0.drew.free _⟩
  have B1 := blk_setCells news (0 + i * 4) B0.drew
  have hs1 : (setAll cur (0 + i * 4) news).size = c * 4 := by rw [setAll_size, hsz]
  have hcl : Hid (∀ ty, (Builtin.clear_ #[23] ty #[.slice (some ⟨g, (i + (n - (i + 1))) * 4, none⟩) (n - (i + (n - (i + 1)))) (c - (i + (n - (i + 1))))]).run Try.prog (w.drew.setCells g (0 + i * 4) news) = .ok (.tuple #[]) ((w.drew.setCells g (0 + i * 4) news).setCells g ((i + (n - (i + 1))) * 4) (#[.int .i64 0, .int .i64 0, .int .i64 0, .int .i64 0] : Array Value).toList)) := by
    intro ty
    rw [show n - (i + (n - (i + 1))) = 1 by omega]
    refine run_clear_one _ _ 141 ty (.agg #[.int .i64 0, .int .i64 0, .int .i64 0, .int .i64 0]) Try.underlying23 hzv (by simp [Value.cells]) (by simp [Value.cells, Value.oneCell']) g _ _ (fun j hj => ?_) (fun j hj => B1.free _)
    have hj' : j < 4 := by simpa [Value.cells] using hj
    have hb : (i + (n - (i + 1))) * 4 + j < (setAll cur (0 + i * 4) news).size := by rw [hs1]; omega
    rw [B1.cell (Array.getElem?_eq_getElem hb)]
    rfl
  have U : Upd w g ((w.drew.setCells g (0 + i * 4) news).setCells g ((i + (n - (i + 1))) * 4) (#[.int .i64 0, .int .i64 0, .int .i64 0, .int .i64 0] : Array Value).toList) := (upd_drew0 w g).trans ((upd_setCells g _ _ _).trans (upd_setCells g _ _ _))
  have B2 := blk_setCells (#[.int .i64 0, .int .i64 0, .int .i64 0, .int .i64 0] : Array Value).toList ((i + (n - (i + 1))) * 4) B1
  have hl2 : (#[.int .i64 0, .int .i64 0, .int .i64 0, .int .i64 0] : Array Value).toList.length = 4 := rfl
  have hfin : (setAll (setAll cur (0 + i * 4) news) ((i + (n - (i + 1))) * 4) (#[.int .i64 0, .int .i64 0, .int .i64 0, .int .i64 0] : Array Value).toList).toList.take ((n - 1) * 4) = xs.take (i * 4) ++ news := by
    rw [setAll_list _ _ _ (by rw [hs1, hl2]; omega), setAll_list _ _ _ (by rw [hlen, hsz]; omega)]
    have e1 : (n - 1) * 4 = (i + (n - (i + 1))) * 4 := by congr 1; omega
    have a1 : (cur.toList.take (0 + i * 4)).length = i * 4 := by simp [hsz]; omega
    rw [e1, List.append_assoc, List.take_append_of_le_length (by simp [hlen, hsz]; omega), List.take_take, Nat.min_self]
    rw [List.take_append_of_le_length (by simp [hlen, hsz]; omega), List.take_of_length_le (by simp [hlen, hsz]; omega)]
    congr 1
    rw [← htk, List.take_take, Nat.zero_add, Nat.min_eq_left (by omega)]
  have HF : Hid (((w.drew.setCells g (0 + i * 4) news).setCells g ((i + (n - (i + 1))) * 4) (#[.int .i64 0, .int .i64 0, .int .i64 0, .int .i64 0] : Array Value).toList).ownsRow base 141 4 (.slice (some ⟨g, 0, none⟩) (n - 1) c) (n - 1) (xs.take (i * 4) ++ news)) := by
    refine ⟨by rw [List.length_append, List.length_take, hlen, hxl]; omega, .inr ⟨g, c, _, rfl, hg, B2.blk, by omega, hcm, by rw [setAll_size, hs1], hfin⟩⟩
  rw [← hnews]
  have HU := Lib.hid U
  clear hnews hlen hcx B0 B1 B2 hs1 hfin U hl2 hh hsz htk hxl h1 hg zj0 zj2 hzv
  have hic : i ≤ c := by omega
  have hjc : i + 1 ≤ c := by omega
  have t1 : ((i : Int) == (i : Int) + 1) = false := by rw [beq_eq_false_iff_ne]; omega
  have t2 : 0 ≤ (i : Int) + 1 := by omega
  have t3 : (i : Int) + 1 ≤ (n : Int) := by omega
  obtain ⟨W1, hW⟩ : ∃ W1, Hid (W1 = w.drew.setCells g (0 + i * 4) news) := ⟨_, Lib.hid rfl⟩
  rw [← hW.out] at hcl HF HU
  generalize hZ : (#[.int .i64 0, .int .i64 0, .int .i64 0, .int .i64 0] : Array Value).toList = zs at hcl HF HU
  clear hZ
  have hcl := hcl.out
  go_enter Try.func177, Try.ntmps177
  go_wp2_with fail
  go_region_law (refine step_append_room rfl (.tmp 22) (.tmp 25) 23 rfl 141 j0 4 Try.underlying23 hj0 zj1 g 0 i c (by simp [Act.eval, Act.put]) A (n - (i + 1)) (c - (i + 1)) news (by simp [Act.eval, Act.put]) s1.out hsrc.out s2.out (by omega) s3.out ?_; rw [← hW.out])
  go_wp2_with fail
  go_ret
  refine ⟨?_, HU.out, HF.out⟩
  simp
  omega
end Go.Proofs.Ytkjlafpafmihaaa
