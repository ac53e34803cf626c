/- Contracts: pack.take, the closure that pack.Decode defers. -/
import Derived.Test.YtkjlafpafmihaaaEncode
import Derived.Recover
import Derived.Defers
namespace Go.Proofs.Ytkjlafpafmihaaa
open Go.ChangeShapes Go.WideShapes Go.RowKit

def badV (c : Int) : Value := .iface 174 (.agg #[.int .i64 c])
def zeroRow : Array Value := #[.int .i64 0, .int .i64 0, .int .i64 0, .int .i64 0, .int .i64 0, .int .i64 0, .int .i64 0, .int .i64 0, .int .i64 0, .int .i64 0]
theorem rcd_inf : (Try.prog.info? 51).map (·.size) = some 10 := by kernel_rfl

def CaughtPost (R E : Nat) (c : Int) (w : World) (e : Ending) (u' : FrameMode) (w' : World) : Prop :=
  e = .returned (.tuple #[]) ∧ u' = .panicking [{ v := badV c, recovered := true }] ∧ (∀ B, B ≤ R → B ≤ E → Below B w w') ∧ Blk w' R zeroRow 51 ∧ Blk w' E #[.int .i64 c] 30

set_option maxRecDepth 100000 in
set_option maxHeartbeats 2000000 in
theorem caught_calls (R E : Nat) (c x : Int) (row : Array Value) (w : World) (hne : R ≠ E) (h1 : Blk w R row 51) (hs : row.size = 10) (h2 : Blk w E #[.int .i64 x] 30) :
    CallsD Try.prog 129 #[.pointer (some ⟨R, 0, none⟩), .pointer (some ⟨E, 0, none⟩)] (.panicking [{ v := badV c, recovered := false }]) w (CaughtPost R E c w) := by
  refine callsD_of_wpS Try.func129 rfl fun c₀ cs hu => ?_
  apply wpS_seq
  apply wpS_region
  simp [wpOpsS, go_sem, recoverD, hu, Try.ntmps129, Exit.thenS, badV]
  refine wpS_of_wp ?_
  rw [show ((#[.pointer (some ⟨R, 0, none⟩), .pointer (some ⟨E, 0, none⟩)] : Array Value) ++ ((Array.replicate 8 undef).setIfInBounds 1 (.iface 174 (.agg #[.int .i64 c]))).setIfInBounds 0 (.iface 174 (.agg #[.int .i64 c]))) = #[.pointer (some ⟨R, 0, none⟩), .pointer (some ⟨E, 0, none⟩), .iface 174 (.agg #[.int .i64 c]), .iface 174 (.agg #[.int .i64 c]), undef, undef, undef, undef, undef, undef] from rfl]
  obtain ⟨z0, z1, z2, z3, z4, z5, z6, z7, z8, z9, rfl⟩ : ∃ z0 z1 z2 z3 z4 z5 z6 z7 z8 z9, row = #[z0, z1, z2, z3, z4, z5, z6, z7, z8, z9] := by
    obtain ⟨l⟩ := row
    match l, hs with
    | [z0, z1, z2, z3, z4, z5, z6, z7, z8, z9], _ => exact ⟨_, _, _, _, _, _, _, _, _, _, rfl⟩
  obtain ⟨c0, c1, c2, c3, c4, c5, c6, c7, c8, c9, cf⟩ := h1.cells10
  have e0 := h2.cell (k := 0) rfl
  have ef := h2.free
  have ht : ∀ w, (Instr.typeAssert (.iface 174 (.agg #[.int .i64 c])) 20 174 false).run Try.prog w = .ok (.agg #[.int .i64 c]) w := fun w => by kernel_rfl
  go_wp2_with fail
  refine wp_region_any (by kernel_rfl) ?_
  change wpAny _ _ _ _ _ _ _ (World.drew _)
  have U0 := upd_drew0 w R
  have D1 := h1.drew
  have D2 := h2.drew
  generalize World.drew w = w6 at U0 D1 D2 ⊢
  clear c0 c1 c2 c3 c4 c5 c6 c7 c8 c9 cf e0 ef
  refine wpAny_take (i := 0) (v := ?_) rfl (by kernel_rfl) (by kernel_rfl) (by kernel_rfl) (fun _ _ _ h => h) (Or.inl ⟨by rfl, ?_⟩) ?_
  · exact .agg #[.int .i64 0, .int .i64 0, .int .i64 0, .int .i64 0, .int .i64 0, .int .i64 0, .int .i64 0, .int .i64 0, .int .i64 0, .int .i64 0]
  · intro w; go_simp
  refine wpAny_take (i := 1) (v := ?_) rfl (by kernel_rfl) (by kernel_rfl) (by kernel_rfl) (fun _ _ _ h => h) (Or.inl ⟨by rfl, ?_⟩) ?_
  · exact .iface 174 (.agg #[.int .i64 c])
  · intro w; go_simp
  refine wpAny_ready (rs := [2, 4]) (by kernel_rfl) (by simp) ?_
  refine AllReady.cons rfl (fun K hK => ?_) (AllReady.cons rfl (fun K hK => ?_) AllReady.nil)
  · go_simp
    refine hK _ _ ?_
    clear hK K
    refine wpAny_ready (rs := [3, 4]) (by kernel_rfl) (by simp) ?_
    refine AllReady.cons rfl (fun K hK => ?_) (AllReady.cons rfl (fun K hK => ?_) AllReady.nil)
    · go_simp
      refine hK _ _ ?_
      clear hK K
      refine wpAny_ready (rs := [4]) (by kernel_rfl) (by simp) ?_
      refine AllReady.cons rfl (fun K hK => ?_) AllReady.nil
      refine step_store_row rfl _ (.tmp 0) (.tmp 6) rfl R rfl _ rfl _ _ D1 rcd_inf rfl rfl ?_
      intro w9 hB9 hU9
      refine hK _ _ ?_
      clear hK K
      have D2 := hU9.blk D2 hne.symm
      refine wpAny_ready (rs := [5]) (by kernel_rfl) (by simp) ?_
      refine AllReady.cons rfl (fun K hK => ?_) AllReady.nil
      have e0 := D2.cell (k := 0) rfl
      have ef := D2.free
      go_simp
      refine hK _ _ ?_
      clear hK K
      refine wpAny_done (by kernel_rfl) ?_ _
      go_wp2_with fail
      simp [bodyPostS, results, Try.results129]
      exact ⟨rfl, rfl, fun B hR hE => ((U0.below hR).trans (hU9.below hR)).setCell (by simpa using hE) _, hB9.other _ (by simpa using hne) _, D2.set_ 0 _⟩
    · refine step_store_row rfl _ (.tmp 0) (.tmp 6) rfl R rfl _ rfl _ _ D1 rcd_inf rfl rfl ?_
      intro w9 hB9 hU9
      refine hK _ _ ?_
      clear hK K
      have D2 := hU9.blk D2 hne.symm
      refine wpAny_ready (rs := [3]) (by kernel_rfl) (by simp) ?_
      refine AllReady.cons rfl (fun K hK => ?_) AllReady.nil
      go_simp
      refine hK _ _ ?_
      clear hK K
      refine wpAny_ready (rs := [5]) (by kernel_rfl) (by simp) ?_
      refine AllReady.cons rfl (fun K hK => ?_) AllReady.nil
      have e0 := D2.cell (k := 0) rfl
      have ef := D2.free
      go_simp
      refine hK _ _ ?_
      clear hK K
      refine wpAny_done (by kernel_rfl) ?_ _
      go_wp2_with fail
      simp [bodyPostS, results, Try.results129]
      exact ⟨rfl, rfl, fun B hR hE => ((U0.below hR).trans (hU9.below hR)).setCell (by simpa using hE) _, hB9.other _ (by simpa using hne) _, D2.set_ 0 _⟩
  · refine step_store_row rfl _ (.tmp 0) (.tmp 6) rfl R rfl _ rfl _ _ D1 rcd_inf rfl rfl ?_
    intro w9 hB9 hU9
    refine hK _ _ ?_
    clear hK K
    have D2 := hU9.blk D2 hne.symm
    refine wpAny_ready (rs := [2]) (by kernel_rfl) (by simp) ?_
    refine AllReady.cons rfl (fun K hK => ?_) AllReady.nil
    go_simp
    refine hK _ _ ?_
    clear hK K
    refine wpAny_ready (rs := [3]) (by kernel_rfl) (by simp) ?_
    refine AllReady.cons rfl (fun K hK => ?_) AllReady.nil
    go_simp
    refine hK _ _ ?_
    clear hK K
    refine wpAny_ready (rs := [5]) (by kernel_rfl) (by simp) ?_
    refine AllReady.cons rfl (fun K hK => ?_) AllReady.nil
    have e0 := D2.cell (k := 0) rfl
    have ef := D2.free
    go_simp
    refine hK _ _ ?_
    clear hK K
    refine wpAny_done (by kernel_rfl) ?_ _
    go_wp2_with fail
    simp [bodyPostS, results, Try.results129]
    exact ⟨rfl, rfl, fun B hR hE => ((U0.below hR).trans (hU9.below hR)).setCell (by simpa using hE) _, hB9.other _ (by simpa using hne) _, D2.set_ 0 _⟩

theorem idle_calls (R E : Nat) (w : World) :
    CallsD Try.prog 129 #[.pointer (some ⟨R, 0, none⟩), .pointer (some ⟨E, 0, none⟩)] .returning w fun e u' w' => e = .returned (.tuple #[]) ∧ u' = .returning ∧ w' = w := by
  refine callsD_of_wpS Try.func129 rfl fun c₀ cs hu => ?_
  apply wpS_seq
  apply wpS_region
  simp [wpOpsS, go_sem, recoverD, hu, Try.ntmps129, Exit.thenS]
  refine wpS_of_wp ?_
  go_wp2_with fail
  cases c₀
  simp_all [bodyPostS, results, Try.results129]

/-- What 'take' answers: a number and the rest; or a panic. -/
def TookPost (B n : Nat) (l : List UInt8) (w : World) (e : Ending) (w' : World) : Prop :=
  (∃ q, w' = w.drewN q) ∧ (((takeM l).2 = 0 ∧ ∃ A c, e = .returned (.tuple #[.int .i64 (takeM l).1, .slice A (n - 4) c]) ∧ n - 4 ≤ c ∧ c ≤ maxLen ∧ 4 ≤ n ∧ Rd w B 1 A (n - 4) (byteCells (l.drop 4))) ∨ ((takeM l).2 ≠ 0 ∧ e = .panicked [{ v := badV (takeM l).2, recovered := false }]))
theorem takeM_four {l : List UInt8} (h : (takeM l).2 = 0) : 4 ≤ l.length := by
  rcases Nat.lt_or_ge l.length 4 with h1 | h1
  · rw [takeM_short h1] at h
    cases h
  · exact h1
theorem byteCells_drop (l : List UInt8) (m : Nat) : (byteCells l).drop m = byteCells (l.drop m) := by simp [byteCells, List.map_drop]
set_option maxRecDepth 100000 in
set_option maxHeartbeats 1000000 in
theorem take_calls (A : Option Addr) (n c : Nat) (l : List UInt8) (w : World) {B : Nat} (h : Rd w B 1 A n (byteCells l)) (hn : n ≤ c) (hcm : c ≤ maxLen) :
    Calls Try.prog 130 #[.slice A n c] w (TookPost B n l w) := by
  have HT := Lib.hid (fun w (h : Rd w B 1 A n (byteCells l)) => Take_calls A n c l w h hn)
  have H := Lib.hid h
  have H4 := Lib.hid (takeM_four (l := l))
  have hl := h.bytes_len
  subst hl
  unfold maxLen at hcm
  have HP : Hid (∀ e w', TookPost B l.length l w e w' = ((∃ q, w' = w.drewN q) ∧ (((takeM l).2 = 0 ∧ ∃ A c, e = .returned (.tuple #[.int .i64 (takeM l).1, .slice A (l.length - 4) c]) ∧ l.length - 4 ≤ c ∧ c ≤ maxLen ∧ 4 ≤ l.length ∧ Rd w B 1 A (l.length - 4) (byteCells (l.drop 4))) ∨ ((takeM l).2 ≠ 0 ∧ e = .panicked [{ v := badV (takeM l).2, recovered := false }])))) := Lib.hid (fun _ _ => rfl)
  generalize TookPost B l.length l w = Post at HP ⊢
  generalize takeM l = t at HT H4 HP
  obtain ⟨t1, t2⟩ := t
  clear h
  by_cases ht : t2 = 0
  · have h4 := H4.out ht
    subst ht
    by_cases hc4 : c = 4
    · subst hc4
      have h4i : (4 : Int) ≤ (l.length : Int) := by omega
      have hl4 := Lib.hid (show l.length = 4 by omega)
      go_enter Try.func130, Try.ntmps130
      go_wp2_with fail
      refine (HT.out _ H.out).mono ?_
      rintro e w1 ⟨rfl, rfl⟩
      simp only
      go_wp2_with fail
      go_region
      go_wp2_with fail
      rw [HP.out]
      have e1 := hl4.out
      have e2 : l.length - 4 = 0 := by omega
      rw [e2, List.drop_of_length_le (Nat.le_of_eq e1)]
      exact ⟨⟨1, rfl⟩, .inl ⟨trivial, A, 0, rfl, Nat.le_refl _, Nat.zero_le _, h4, Rd.none_⟩⟩
    · have hc4' : (c == 4) = false := by simpa using hc4
      have h4i : (4 : Int) ≤ (l.length : Int) := by omega
      have H5 := Lib.hid (H.out.cut (k := 4) h4 hn)
      rw [if_neg hc4] at H5
      go_enter Try.func130, Try.ntmps130
      go_wp2_with fail
      refine (HT.out _ H.out).mono ?_
      rintro e w1 ⟨rfl, rfl⟩
      simp only
      go_wp2_with fail
      go_region
      go_wp2_with fail
      rw [HP.out]
      refine ⟨⟨1, rfl⟩, .inl ⟨trivial, _, _, rfl, by omega, by unfold maxLen; omega, h4, ?_⟩⟩
      have h5 := H5.out
      rw [Nat.mul_one, byteCells_drop] at h5
      exact h5
  · have hb1 : (t2 == 0) = false := by simpa using ht
    have hb2 : (t2 != 0) = true := by simpa using ht
    have HT2 := Lib.hid ht
    clear ht
    go_enter Try.func130, Try.ntmps130
    go_wp2_with fail
    refine (HT.out _ H.out).mono ?_
    rintro e w1 ⟨rfl, rfl⟩
    simp only
    go_wp2_with fail
    refine ⟨rfl, ?_⟩
    rw [HP.out]
    exact ⟨⟨0, rfl⟩, .inr ⟨HT2.out, rfl⟩⟩
end Go.Proofs.Ytkjlafpafmihaaa
