/- Contract: ref.RecordsOf. (The steps are printed by a program of mine: wip/px.) -/
import Derived.Test.YtkjlafpafmihaaaTp2
import Derived.Test.YtkjlafpafmihaaaTapeRef
namespace Go.Proofs.Ytkjlafpafmihaaa
open Go.ChangeShapes Go.WideShapes Go.RowKit

theorem decM_len {b : List UInt8} (h : (decM b).2 = 0) : b.length ≤ 40 := by
  unfold decM at h
  by_cases h1 : errTo b (manyOf b) ≠ 0
  · rw [if_pos h1] at h; exact absurd h h1
  · rw [if_neg h1] at h
    by_cases h2 : b.length ≠ 4 * manyOf b ∨ recFault (rcdTo b (manyOf b)) ≠ 0
    · rw [if_pos h2] at h; simp at h
    · rw [not_or] at h2
      have := manyOf_or b
      omega

set_option maxRecDepth 100000 in
set_option maxHeartbeats 4000000 in
theorem RecordsOf_calls (A : Option Addr) (c : Nat) (l : List UInt8) (s : Int) (w : World) (h : Rd w w.heap.size 1 A l.length (byteCells l)) (hlc : l.length ≤ c) (hcm : c ≤ 9223372036854775807) :
    Calls Try.prog 62 #[.agg #[.slice A l.length c, .int .i64 s]] w (ReadPost w (readM l s)) := by
  have S := (St.start w).addRd (rd_f h)
  clear h
  refine calls_of_wC (N := 102) (vs := [.agg #[.slice A l.length c, .int .i64 s]]) Try.func62 rfl rfl rfl ?_
  refine wC_sub (l' := [(0, .agg #[.slice A l.length c, .int .i64 s])]) ⟨rfl, trivial⟩ ?_
  refine wC_seq ?_
  refine wC_region ?_
  refine wL_new (V := fun b => .pointer (some ⟨b, 0, none⟩)) (row := #[.slice A l.length c, .int .i64 s]) (t := 80) S (wn rfl) rfl rfl (d_box rfl rfl rfl) ?_
  intro b1 w2 S3
  clear S
  refine wL_val (v := .slice none 0 0) (wn rfl) rfl rfl (y_assign rfl rfl) ?_
  refine wL_val (v := .int .i64 0) (wn rfl) rfl rfl (y_assign rfl rfl) ?_
  refine wL_val (v := .int .i64 0) (wn rfl) rfl rfl (y_assign rfl rfl) ?_
  refine wL_nil ?_
  refine wQ_then ?_
  refine wC_seq ?_
  refine wC_seq ?_
  refine wC_region ?_
  refine wL_val (v := .agg #[.slice A l.length c, .int .i64 s]) (wn rfl) rfl rfl (y_load rfl rfl (r_load_row 0 S3 rfl Try.underlying80 rfl inf80 rfl)) ?_
  cases hm : tapeMay l s
  · have HM := fun w => TapeMay_calls A l.length c l s w rfl
    rw [hm] at HM
    refine wL_call (vs := [.agg #[.slice A l.length c, .int .i64 s]]) (wn rfl) rfl rfl (e_call (vs := [.agg #[.slice A l.length c, .int .i64 s]]) rfl en138 ⟨rfl, trivial⟩) (HM _) ?_
    rintro _ w4 ⟨rfl, hb6⟩
    refine ⟨_, rfl, ?_⟩
    have S5 := S3.on hb6
    clear hb6 S3
    refine wL_val (v := .bool true) (wn rfl) rfl rfl (y_unop rfl rfl r_not) ?_
    refine wL_nil ?_
    refine wQ_sub (l' := [(0, .agg #[.slice A l.length c, .int .i64 s]), (1, .pointer (some ⟨b1, 0, none⟩)), (2, .slice none 0 0), (3, .int .i64 0), (4, .int .i64 0), (16, .bool true)]) ⟨rfl, rfl, rfl, rfl, rfl, rfl, trivial⟩ ?_
    refine wQ_then ?_
    refine wC_cond_t rfl ?_
    refine wC_seq ?_
    refine wC_region ?_
    refine wL_val (v := .slice none 0 0) (wn rfl) rfl rfl (y_assign rfl rfl) ?_
    refine wL_val (v := .int .i64 0) (wn rfl) rfl rfl (y_assign rfl rfl) ?_
    refine wL_val (v := .int .i64 6) (wn rfl) rfl rfl (y_assign rfl rfl) ?_
    refine wL_nil ?_
    refine wQ_then ?_
    refine wC_ret ?_
    refine wQ_then_ret ?_
    refine wQ_post (rs := [.tmp 2, .tmp 3, .tmp 4]) (vs := [.slice none 0 0, .int .i64 0, .int .i64 6]) rfl ⟨rfl, rfl, rfl, trivial⟩ ?_
    have S7 : St w.heap.size w w4 [] := (St.del 0 (St.del 1 S5))
    clear S5
    rw [show readM l s = ([], 0, 6) from if_neg (by rw [hm]; simp)]
    exact ⟨none, 0, rfl, S7.nil 51 10⟩
  · have HM := fun w => TapeMay_calls A l.length c l s w rfl
    rw [hm] at HM
    have hlen : l.length ≤ 100000 := (tapeMay_of hm).1
    refine wL_call (vs := [.agg #[.slice A l.length c, .int .i64 s]]) (wn rfl) rfl rfl (e_call (vs := [.agg #[.slice A l.length c, .int .i64 s]]) rfl en138 ⟨rfl, trivial⟩) (HM _) ?_
    rintro _ w8 ⟨rfl, hb10⟩
    refine ⟨_, rfl, ?_⟩
    have S9 := S3.on hb10
    clear hb10 S3
    refine wL_val (v := .bool false) (wn rfl) rfl rfl (y_unop rfl rfl r_not) ?_
    refine wL_nil ?_
    refine wQ_sub (l' := [(0, .agg #[.slice A l.length c, .int .i64 s]), (1, .pointer (some ⟨b1, 0, none⟩)), (2, .slice none 0 0), (3, .int .i64 0), (4, .int .i64 0), (16, .bool false)]) ⟨rfl, rfl, rfl, rfl, rfl, rfl, trivial⟩ ?_
    refine wQ_then ?_
    refine wC_cond_f rfl ?_
    refine wC_skip ?_
    refine wQ_then ?_
    refine wC_seq ?_
    refine wC_region ?_
    have S11 := S9.nil 51 10
    clear S9
    refine wL_val (v := .slice none 0 0) (wn rfl) rfl rfl (y_assign rfl rfl) ?_
    refine wL_nil ?_
    refine wQ_then ?_
    refine wC_seq ?_
    refine wC_region ?_
    refine wL_val (v := .int .i64 0) (wn rfl) rfl rfl (y_assign rfl rfl) ?_
    refine wL_nil ?_
    refine wQ_then ?_
    refine wC_seq ?_
    refine wC_block ?_
    refine wC_loop (X := (List Rcd) × Nat × Nat × (Option Addr) × Nat) (fun xv => [(0, .agg #[.slice A l.length c, .int .i64 s]), (1, .pointer (some ⟨b1, 0, none⟩)), (2, .slice none 0 0), (3, .int .i64 0), (4, .int .i64 0), (16, .bool false), (5, .slice xv.2.2.2.1 xv.2.2.1 xv.2.2.2.2), (6, .int .i64 ((xv.2.1 : Nat) : Int))]) (fun xv wr => (readsM l = (xv.1 ++ (readsM (l.drop xv.2.1)).1, xv.2.1 + (readsM (l.drop xv.2.1)).2)) ∧ (xv.2.1 ≤ l.length) ∧ (xv.2.2.1 ≤ xv.2.1) ∧ (xv.2.2.1 = xv.1.length) ∧ St w.heap.size w wr [.own 51 10 (.slice xv.2.2.2.1 xv.2.2.1 xv.2.2.2.2) xv.2.2.1 ((xv.1).flatMap Rcd.cells), .blk b1 #[.slice A l.length c, .int .i64 s] 80, .rd 1 A l.length ((l).flatMap oneB)]) (fun xv => l.length - xv.2.1) ([], 0, 0, none, 0) ?_ ?_ ?_
    · exact ⟨readsM_begin, Nat.zero_le _, Nat.le_refl _, rfl, S11⟩
    · exact ⟨rfl, rfl, rfl, rfl, rfl, rfl, rfl, rfl, trivial⟩
    · rintro ⟨acc, p, m, A9, c9⟩ w12 ⟨hi14, hi15, hi16, hi17, S13⟩
      try dsimp only at hi14 hi15 hi16 hi17 S13
      clear S11
      refine wC_sub (l' := [(0, .agg #[.slice A l.length c, .int .i64 s]), (1, .pointer (some ⟨b1, 0, none⟩)), (2, .slice none 0 0), (3, .int .i64 0), (4, .int .i64 0), (16, .bool false), (5, .slice A9 m c9), (6, .int .i64 ((p : Nat) : Int))]) ⟨rfl, rfl, rfl, rfl, rfl, rfl, rfl, rfl, trivial⟩ ?_
      refine wC_seq ?_
      refine wC_seq ?_
      refine wC_region ?_
      refine wL_val (v := .int .i64 ((p : Nat) : Int)) (wn rfl) rfl rfl (y_move rfl rfl) ?_
      refine wL_val (v := .int .i64 ((p + 2 : Nat) : Int)) (wn rfl) rfl rfl (y_binop rfl rfl rfl (r_add (by omega) (by omega))) ?_
      refine wL_val (v := .pointer (some ⟨b1, 0, none⟩)) (wn rfl) rfl rfl (y_fieldAddr rfl rfl (fa80_0 _ _ _)) ?_
      refine wL_val (v := .slice A l.length c) (wn rfl) rfl rfl (y_load rfl rfl (r_load Try.underlying52 rfl (St.cl 1 S13 rfl rfl))) ?_
      refine wL_val (v := .int .i64 ((l.length : Nat) : Int)) (wn rfl) rfl rfl (y_builtin (vs := [.slice A l.length c]) rfl ⟨rfl, trivial⟩ fun _ => r_len rfl Try.underlying52) ?_
      have hld : (l.drop p).length = l.length - p := List.length_drop
      by_cases h18 : p + 2 ≤ l.length
      · refine wL_val (v := .bool true) (wn rfl) rfl rfl (y_binop rfl rfl rfl (r_leq_t (by omega))) ?_
        refine wL_nil ?_
        refine wQ_sub (l' := [(0, .agg #[.slice A l.length c, .int .i64 s]), (1, .pointer (some ⟨b1, 0, none⟩)), (2, .slice none 0 0), (3, .int .i64 0), (4, .int .i64 0), (16, .bool false), (5, .slice A9 m c9), (6, .int .i64 ((p : Nat) : Int)), (22, .bool true)]) ⟨rfl, rfl, rfl, rfl, rfl, rfl, rfl, rfl, rfl, trivial⟩ ?_
        refine wQ_then ?_
        refine wC_cond_t rfl ?_
        refine wC_skip ?_
        refine wQ_then ?_
        refine wC_block ?_
        refine wC_seq ?_
        refine wC_quiet S13 mixed (by kernel_rfl) ?_
        refine wU_val (v := .pointer (some ⟨b1, 0, none⟩)) (wn rfl) rfl rfl (fun _ _ => (y_fieldAddr rfl rfl (fa80_0 _ _ _))) ?_
        refine wU_val (v := .slice A l.length c) (wn rfl) rfl rfl (fun _ Sx20 => (y_load rfl rfl (r_load Try.underlying52 rfl (St.cl 1 Sx20 rfl rfl)))) ?_
        refine wU_val (v := .int .i64 ((p : Nat) : Int)) (wn rfl) rfl rfl (fun _ _ => (y_move rfl rfl)) ?_
        obtain ⟨b22, o23, rfl⟩ := Rd.addr (St.rd 2 S13 rfl) (by omega)
        obtain ⟨x24, hx25⟩ : ∃ x, (l)[p]? = some x := ⟨_, List.getElem?_eq_getElem (by have := (St.rd 2 S13 rfl).1; rw [fm_len (sz := 1) (fun _ => rfl)] at this; omega)⟩
        refine wU_val (v := .pointer (some ⟨b22, o23 + p * 1, none⟩)) (wn rfl) rfl rfl (fun _ _ => (y_indexAddr rfl rfl rfl (r_indexAddr p Try.underlying52 inf5 (by omega) (by omega)))) ?_
        refine wU_val (v := .int .u8 ((x24).toNat : Int)) (wn rfl) rfl rfl (fun _ Sx27 => (y_load rfl rfl (r_load Try.underlying5 rfl (Rd.cl2 (i := 0) (St.rd 2 Sx27 rfl) (fm_get (enc := oneB) (sz := 1) (fun _ => rfl) hx25 rfl))))) ?_
        refine wU_val (v := .int .i64 ((x24).toNat : Int)) (wn rfl) rfl rfl (fun _ _ => (y_convert rfl rfl (r_u8int (a := x24) rfl (by kernel_rfl)))) ?_
        have hv1 := u8_in x24
        refine wU_val (v := .int .i64 (256 * ((x24).toNat : Int))) (wn rfl) rfl rfl (fun _ _ => (y_binop rfl rfl rfl (r_mul (by omega) (by omega)))) ?_
        refine wU_val (v := .pointer (some ⟨b1, 0, none⟩)) (wn rfl) rfl rfl (fun _ _ => (y_fieldAddr rfl rfl (fa80_0 _ _ _))) ?_
        refine wU_val (v := .slice (some ⟨b22, o23, none⟩) l.length c) (wn rfl) rfl rfl (fun _ Sx31 => (y_load rfl rfl (r_load Try.underlying52 rfl (St.cl 1 Sx31 rfl rfl)))) ?_
        refine wU_val (v := .int .i64 ((p : Nat) : Int)) (wn rfl) rfl rfl (fun _ _ => (y_move rfl rfl)) ?_
        refine wU_val (v := .int .i64 ((p + 1 : Nat) : Int)) (wn rfl) rfl rfl (fun _ _ => (y_binop rfl rfl rfl (r_add (by omega) (by omega)))) ?_
        obtain ⟨x34, hx35⟩ : ∃ x, (l)[p + 1]? = some x := ⟨_, List.getElem?_eq_getElem (by have := (St.rd 2 S13 rfl).1; rw [fm_len (sz := 1) (fun _ => rfl)] at this; omega)⟩
        refine wU_val (v := .pointer (some ⟨b22, o23 + (p + 1) * 1, none⟩)) (wn rfl) rfl rfl (fun _ _ => (y_indexAddr rfl rfl rfl (r_indexAddr (p + 1) Try.underlying52 inf5 (by omega) (by omega)))) ?_
        refine wU_val (v := .int .u8 ((x34).toNat : Int)) (wn rfl) rfl rfl (fun _ Sx37 => (y_load rfl rfl (r_load Try.underlying5 rfl (Rd.cl2 (i := 0) (St.rd 2 Sx37 rfl) (fm_get (enc := oneB) (sz := 1) (fun _ => rfl) hx35 rfl))))) ?_
        refine wU_val (v := .int .i64 ((x34).toNat : Int)) (wn rfl) rfl rfl (fun _ _ => (y_convert rfl rfl (r_u8int (a := x34) rfl (by kernel_rfl)))) ?_
        have hu1 := u8_in x34
        have hu2 := u8_in x24
        have hp := pay_at (b := l.drop p) (by rw [List.getElem?_drop]; exact hx25) (by rw [List.getElem?_drop]; exact hx35)
        have hp65 : payN (l.drop p) ≤ 65535 := by omega
        refine wU_val (v := .int .i64 ((payN (l.drop p) : Nat) : Int)) (wn rfl) rfl rfl (fun _ _ => (y_binop rfl rfl rfl (by rw [show ((payN (l.drop p) : Nat) : Int) = 256 * ((x24).toNat : Int) + ((x34).toNat : Int) by omega]; exact r_add (by omega) (by omega)))) ?_
        refine wU_val (v := .int .i64 ((payN (l.drop p) : Nat) : Int)) (wn rfl) rfl rfl (fun _ _ => (y_assign rfl rfl)) ?_
        refine wU_nil fun w41 S42 => ?_
        clear S13
        refine wQ_sub (l' := [(0, .agg #[.slice (some ⟨b22, o23, none⟩) l.length c, .int .i64 s]), (1, .pointer (some ⟨b1, 0, none⟩)), (2, .slice none 0 0), (3, .int .i64 0), (4, .int .i64 0), (16, .bool false), (5, .slice A9 m c9), (6, .int .i64 ((p : Nat) : Int)), (22, .bool true), (7, .int .i64 ((payN (l.drop p) : Nat) : Int))]) ⟨rfl, rfl, rfl, rfl, rfl, rfl, rfl, rfl, rfl, rfl, trivial⟩ ?_
        refine wQ_then ?_
        refine wC_seq ?_
        refine wC_seq ?_
        refine wC_region ?_
        refine wL_val (v := .int .i64 ((p : Nat) : Int)) (wn rfl) rfl rfl (y_move rfl rfl) ?_
        refine wL_val (v := .int .i64 ((payN (l.drop p) : Nat) : Int)) (wn rfl) rfl rfl (y_move rfl rfl) ?_
        refine wL_val (v := .int .i64 ((p + (payN (l.drop p)) : Nat) : Int)) (wn rfl) rfl rfl (y_binop rfl rfl rfl (r_add (by omega) (by omega))) ?_
        refine wL_val (v := .int .i64 (((p + (payN (l.drop p))) + 6 : Nat) : Int)) (wn rfl) rfl rfl (y_binop rfl rfl rfl (r_add (by omega) (by omega))) ?_
        refine wL_val (v := .pointer (some ⟨b1, 0, none⟩)) (wn rfl) rfl rfl (y_fieldAddr rfl rfl (fa80_0 _ _ _)) ?_
        refine wL_val (v := .slice (some ⟨b22, o23, none⟩) l.length c) (wn rfl) rfl rfl (y_load rfl rfl (r_load Try.underlying52 rfl (St.cl 1 S42 rfl rfl))) ?_
        refine wL_val (v := .int .i64 ((l.length : Nat) : Int)) (wn rfl) rfl rfl (y_builtin (vs := [.slice (some ⟨b22, o23, none⟩) l.length c]) rfl ⟨rfl, trivial⟩ fun _ => r_len rfl Try.underlying52) ?_
        by_cases h43 : l.length < p + payN (l.drop p) + 6
        · have hst : firstM (l.drop p) = noRcd := firstM_cut (by omega) (by omega)
          refine wL_val (v := .bool true) (wn rfl) rfl rfl (y_binop rfl rfl rfl (r_gtr_t (by omega))) ?_
          refine wL_nil ?_
          refine wQ_sub (l' := [(0, .agg #[.slice (some ⟨b22, o23, none⟩) l.length c, .int .i64 s]), (1, .pointer (some ⟨b1, 0, none⟩)), (2, .slice none 0 0), (3, .int .i64 0), (4, .int .i64 0), (16, .bool false), (5, .slice A9 m c9), (6, .int .i64 ((p : Nat) : Int)), (22, .bool true), (7, .int .i64 ((payN (l.drop p) : Nat) : Int)), (45, .bool true)]) ⟨rfl, rfl, rfl, rfl, rfl, rfl, rfl, rfl, rfl, rfl, rfl, trivial⟩ ?_
          refine wQ_then ?_
          refine wC_cond_t rfl ?_
          refine wC_seq ?_
          refine wC_region ?_
          refine wL_val (v := .slice A9 m c9) (wn rfl) rfl rfl (y_move rfl rfl) ?_
          refine wL_val (v := .int .i64 ((p : Nat) : Int)) (wn rfl) rfl rfl (y_move rfl rfl) ?_
          refine wL_val (v := .slice A9 m c9) (wn rfl) rfl rfl (y_assign rfl rfl) ?_
          refine wL_val (v := .int .i64 ((p : Nat) : Int)) (wn rfl) rfl rfl (y_assign rfl rfl) ?_
          refine wL_val (v := .int .i64 0) (wn rfl) rfl rfl (y_assign rfl rfl) ?_
          refine wL_nil ?_
          refine wQ_sub (l' := [(0, .agg #[.slice (some ⟨b22, o23, none⟩) l.length c, .int .i64 s]), (1, .pointer (some ⟨b1, 0, none⟩)), (2, .slice A9 m c9), (3, .int .i64 ((p : Nat) : Int)), (4, .int .i64 0), (16, .bool false), (5, .slice A9 m c9), (6, .int .i64 ((p : Nat) : Int)), (22, .bool true), (7, .int .i64 ((payN (l.drop p) : Nat) : Int)), (45, .bool true)]) ⟨rfl, rfl, rfl, rfl, rfl, rfl, rfl, rfl, rfl, rfl, rfl, trivial⟩ ?_
          refine wQ_then ?_
          refine wC_ret ?_
          refine wQ_then_ret ?_
          refine wQ_blk_ret ?_
          refine wQ_then_ret ?_
          refine wQ_blk_ret ?_
          refine wQ_then_ret ?_
          refine wQ_post (rs := [.tmp 2, .tmp 3, .tmp 4]) (vs := [.slice A9 m c9, .int .i64 ((p : Nat) : Int), .int .i64 0]) rfl ⟨rfl, rfl, rfl, trivial⟩ ?_
          have S44 : St w.heap.size w w41 [.own 51 10 (.slice A9 m c9) m ((acc).flatMap Rcd.cells)] := (St.del 1 (St.del 2 S42))
          clear S42
          have hz : readM l s = (acc, p, 0) := readM_end hm hi14 (by rw [hst]; rfl)
          rw [hz]
          subst hi17
          exact ⟨_, _, rfl, S44⟩
        · refine wL_val (v := .bool false) (wn rfl) rfl rfl (y_binop rfl rfl rfl (r_gtr_f (by omega))) ?_
          refine wL_nil ?_
          refine wQ_sub (l' := [(0, .agg #[.slice (some ⟨b22, o23, none⟩) l.length c, .int .i64 s]), (1, .pointer (some ⟨b1, 0, none⟩)), (2, .slice none 0 0), (3, .int .i64 0), (4, .int .i64 0), (16, .bool false), (5, .slice A9 m c9), (6, .int .i64 ((p : Nat) : Int)), (22, .bool true), (7, .int .i64 ((payN (l.drop p) : Nat) : Int)), (45, .bool false)]) ⟨rfl, rfl, rfl, rfl, rfl, rfl, rfl, rfl, rfl, rfl, rfl, trivial⟩ ?_
          refine wQ_then ?_
          refine wC_cond_f rfl ?_
          refine wC_skip ?_
          refine wQ_then ?_
          refine wC_seq ?_
          refine wC_region ?_
          refine wL_val (v := .pointer (some ⟨b1, 0, none⟩)) (wn rfl) rfl rfl (y_fieldAddr rfl rfl (fa80_0 _ _ _)) ?_
          refine wL_val (v := .slice (some ⟨b22, o23, none⟩) l.length c) (wn rfl) rfl rfl (y_load rfl rfl (r_load Try.underlying52 rfl (St.cl 1 S42 rfl rfl))) ?_
          refine wL_val (v := .int .i64 ((p : Nat) : Int)) (wn rfl) rfl rfl (y_move rfl rfl) ?_
          refine wL_val (v := .int .i64 ((p + 2 : Nat) : Int)) (wn rfl) rfl rfl (y_binop rfl rfl rfl (r_add (by omega) (by omega))) ?_
          refine wL_val (v := .int .i64 ((p : Nat) : Int)) (wn rfl) rfl rfl (y_move rfl rfl) ?_
          refine wL_val (v := .int .i64 ((p + 2 : Nat) : Int)) (wn rfl) rfl rfl (y_binop rfl rfl rfl (r_add (by omega) (by omega))) ?_
          refine wL_val (v := .int .i64 ((payN (l.drop p) : Nat) : Int)) (wn rfl) rfl rfl (y_move rfl rfl) ?_
          refine wL_val (v := .int .i64 (((p + 2) + (payN (l.drop p)) : Nat) : Int)) (wn rfl) rfl rfl (y_binop rfl rfl rfl (r_add (by omega) (by omega))) ?_
          obtain ⟨A45, hr46, hR47⟩ := bslice (b := l) (c := c) (lo := some (.int .i64 ((p + 2 : Nat) : Int))) (hi := some (.int .i64 (((p + 2) + (payN (l.drop p)) : Nat) : Int))) (mx := none) (l := p + 2) (k := p + 2 + payN (l.drop p)) (q := c) (m := payN (l.drop p)) (c' := c - (p + 2)) Try.underlying52 inf5 (sb_lh (p + 2) (p + 2 + payN (l.drop p)) rfl rfl (by omega) (by omega)) (rd_b (show Rd _ _ _ _ _ _ from S42.all 2 _ rfl)) (by omega) (by omega) (by omega) (by omega) rfl
          rw [← List.drop_drop] at hR47
          have S48 := S42.addRd hR47
          clear S42
          have hpl : (((l.drop p).drop 2).take (payN (l.drop p))).length = payN (l.drop p) := by rw [List.length_take, List.length_drop]; omega
          refine wL_val (v := .slice A45 (payN (l.drop p)) (c - (p + 2))) (wn rfl) rfl rfl (y_slice rfl rfl (evo_s rfl) (evo_s rfl) evo_n (hr46 _)) ?_
          have HF := fun A c w h => RecordOf_calls A c (((l.drop p).drop 2).take (payN (l.drop p))) w h
          rw [hpl] at HF
          refine wL_call (vs := [.slice A45 (payN (l.drop p)) (c - (p + 2))]) (wn rfl) rfl rfl (e_call (vs := [.slice A45 (payN (l.drop p)) (c - (p + 2))]) rfl en51 ⟨rfl, trivial⟩) (HF A45 (c - (p + 2)) _ (St.rd 0 S48 rfl) (by omega) (by omega)) ?_
          rintro _ w49 ⟨rfl, hb51⟩
          refine ⟨_, rfl, ?_⟩
          have S50 := S48.on hb51
          clear hb51 S48
          clear HF
          refine wL_val (v := .tuple #[.agg #[.int .i64 ((decM (((l.drop p).drop 2).take (payN (l.drop p)))).1.kind), .int .i64 ((decM (((l.drop p).drop 2).take (payN (l.drop p)))).1.queue), .int .i64 ((decM (((l.drop p).drop 2).take (payN (l.drop p)))).1.epoch), .int .i64 ((decM (((l.drop p).drop 2).take (payN (l.drop p)))).1.peer), .int .i64 ((decM (((l.drop p).drop 2).take (payN (l.drop p)))).1.ev.kind), .int .i64 ((decM (((l.drop p).drop 2).take (payN (l.drop p)))).1.ev.producer), .int .i64 ((decM (((l.drop p).drop 2).take (payN (l.drop p)))).1.ev.id), .int .i64 ((decM (((l.drop p).drop 2).take (payN (l.drop p)))).1.ev.body), .int .i64 ((decM (((l.drop p).drop 2).take (payN (l.drop p)))).1.ev.hepoch), .int .i64 ((decM (((l.drop p).drop 2).take (payN (l.drop p)))).1.ev.hno)], .int .i64 ((decM (((l.drop p).drop 2).take (payN (l.drop p)))).2)]) (wn rfl) rfl rfl (y_move rfl rfl) ?_
          refine wL_val (v := .agg #[.int .i64 ((decM (((l.drop p).drop 2).take (payN (l.drop p)))).1.kind), .int .i64 ((decM (((l.drop p).drop 2).take (payN (l.drop p)))).1.queue), .int .i64 ((decM (((l.drop p).drop 2).take (payN (l.drop p)))).1.epoch), .int .i64 ((decM (((l.drop p).drop 2).take (payN (l.drop p)))).1.peer), .int .i64 ((decM (((l.drop p).drop 2).take (payN (l.drop p)))).1.ev.kind), .int .i64 ((decM (((l.drop p).drop 2).take (payN (l.drop p)))).1.ev.producer), .int .i64 ((decM (((l.drop p).drop 2).take (payN (l.drop p)))).1.ev.id), .int .i64 ((decM (((l.drop p).drop 2).take (payN (l.drop p)))).1.ev.body), .int .i64 ((decM (((l.drop p).drop 2).take (payN (l.drop p)))).1.ev.hepoch), .int .i64 ((decM (((l.drop p).drop 2).take (payN (l.drop p)))).1.ev.hno)]) (wn rfl) rfl rfl (y_extract rfl rfl rfl) ?_
          refine wL_val (v := .int .i64 ((decM (((l.drop p).drop 2).take (payN (l.drop p)))).2)) (wn rfl) rfl rfl (y_extract rfl rfl rfl) ?_
          refine wL_new (V := fun b => .pointer (some ⟨b, 0, none⟩)) (row := #[.int .i64 0, .int .i64 0, .int .i64 0, .int .i64 0, .int .i64 0, .int .i64 0, .int .i64 0, .int .i64 0, .int .i64 0, .int .i64 0]) (t := 51) S50 (wn rfl) rfl rfl (d_alloc rfl (Try.zeroValue51 _) rfl) ?_
          intro b52 w53 S54
          clear S50
          refine wL_st (cs := #[.int .i64 ((decM (((l.drop p).drop 2).take (payN (l.drop p)))).1.kind), .int .i64 ((decM (((l.drop p).drop 2).take (payN (l.drop p)))).1.queue), .int .i64 ((decM (((l.drop p).drop 2).take (payN (l.drop p)))).1.epoch), .int .i64 ((decM (((l.drop p).drop 2).take (payN (l.drop p)))).1.peer), .int .i64 ((decM (((l.drop p).drop 2).take (payN (l.drop p)))).1.ev.kind), .int .i64 ((decM (((l.drop p).drop 2).take (payN (l.drop p)))).1.ev.producer), .int .i64 ((decM (((l.drop p).drop 2).take (payN (l.drop p)))).1.ev.id), .int .i64 ((decM (((l.drop p).drop 2).take (payN (l.drop p)))).1.ev.body), .int .i64 ((decM (((l.drop p).drop 2).take (payN (l.drop p)))).1.ev.hepoch), .int .i64 ((decM (((l.drop p).drop 2).take (payN (l.drop p)))).1.ev.hno)]) (row' := #[.int .i64 ((decM (((l.drop p).drop 2).take (payN (l.drop p)))).1.kind), .int .i64 ((decM (((l.drop p).drop 2).take (payN (l.drop p)))).1.queue), .int .i64 ((decM (((l.drop p).drop 2).take (payN (l.drop p)))).1.epoch), .int .i64 ((decM (((l.drop p).drop 2).take (payN (l.drop p)))).1.peer), .int .i64 ((decM (((l.drop p).drop 2).take (payN (l.drop p)))).1.ev.kind), .int .i64 ((decM (((l.drop p).drop 2).take (payN (l.drop p)))).1.ev.producer), .int .i64 ((decM (((l.drop p).drop 2).take (payN (l.drop p)))).1.ev.id), .int .i64 ((decM (((l.drop p).drop 2).take (payN (l.drop p)))).1.ev.body), .int .i64 ((decM (((l.drop p).drop 2).take (payN (l.drop p)))).1.ev.hepoch), .int .i64 ((decM (((l.drop p).drop 2).take (payN (l.drop p)))).1.ev.hno)]) (fs' := [.blk b52 #[.int .i64 ((decM (((l.drop p).drop 2).take (payN (l.drop p)))).1.kind), .int .i64 ((decM (((l.drop p).drop 2).take (payN (l.drop p)))).1.queue), .int .i64 ((decM (((l.drop p).drop 2).take (payN (l.drop p)))).1.epoch), .int .i64 ((decM (((l.drop p).drop 2).take (payN (l.drop p)))).1.peer), .int .i64 ((decM (((l.drop p).drop 2).take (payN (l.drop p)))).1.ev.kind), .int .i64 ((decM (((l.drop p).drop 2).take (payN (l.drop p)))).1.ev.producer), .int .i64 ((decM (((l.drop p).drop 2).take (payN (l.drop p)))).1.ev.id), .int .i64 ((decM (((l.drop p).drop 2).take (payN (l.drop p)))).1.ev.body), .int .i64 ((decM (((l.drop p).drop 2).take (payN (l.drop p)))).1.ev.hepoch), .int .i64 ((decM (((l.drop p).drop 2).take (payN (l.drop p)))).1.ev.hno)] 51, .rd 1 A45 (payN (l.drop p)) (byteCells (((l.drop p).drop 2).take (payN (l.drop p)))), .own 51 10 (.slice A9 m c9) m ((acc).flatMap Rcd.cells), .blk b1 #[.slice (some ⟨b22, o23, none⟩) l.length c, .int .i64 s] 80, .rd 1 (some ⟨b22, o23, none⟩) l.length ((l).flatMap oneB) ]) 0 S54 (wn rfl) rfl rfl rfl rfl rfl rfl inf51 rfl (oneAll rfl) (Nat.le_of_ble_eq_true rfl) (setAll_all rfl) rfl ?_
          intro w55 S56
          clear S54
          refine wL_val (v := .int .i64 ((decM (((l.drop p).drop 2).take (payN (l.drop p)))).2)) (wn rfl) rfl rfl (y_assign rfl rfl) ?_
          refine wL_nil ?_
          refine wQ_sub (l' := [(0, .agg #[.slice (some ⟨b22, o23, none⟩) l.length c, .int .i64 s]), (1, .pointer (some ⟨b1, 0, none⟩)), (2, .slice none 0 0), (3, .int .i64 0), (4, .int .i64 0), (16, .bool false), (5, .slice A9 m c9), (6, .int .i64 ((p : Nat) : Int)), (22, .bool true), (7, .int .i64 ((payN (l.drop p) : Nat) : Int)), (45, .bool false), (8, .pointer (some ⟨b52, 0, none⟩)), (9, .int .i64 ((decM (((l.drop p).drop 2).take (payN (l.drop p)))).2))]) ⟨rfl, rfl, rfl, rfl, rfl, rfl, rfl, rfl, rfl, rfl, rfl, rfl, rfl, trivial⟩ ?_
          refine wQ_then ?_
          refine wC_seq ?_
          refine wC_seq ?_
          refine wC_region ?_
          refine wL_val (v := .int .i64 ((decM (((l.drop p).drop 2).take (payN (l.drop p)))).2)) (wn rfl) rfl rfl (y_move rfl rfl) ?_
          by_cases hdec : (decM (((l.drop p).drop 2).take (payN (l.drop p)))).2 = 0
          · refine wL_val (v := .bool false) (wn rfl) rfl rfl (y_binop rfl rfl rfl (r_neq_f hdec)) ?_
            refine wL_nil ?_
            refine wQ_sub (l' := [(0, .agg #[.slice (some ⟨b22, o23, none⟩) l.length c, .int .i64 s]), (1, .pointer (some ⟨b1, 0, none⟩)), (2, .slice none 0 0), (3, .int .i64 0), (4, .int .i64 0), (16, .bool false), (5, .slice A9 m c9), (6, .int .i64 ((p : Nat) : Int)), (22, .bool true), (7, .int .i64 ((payN (l.drop p) : Nat) : Int)), (45, .bool false), (8, .pointer (some ⟨b52, 0, none⟩)), (9, .int .i64 ((decM (((l.drop p).drop 2).take (payN (l.drop p)))).2)), (62, .bool false)]) ⟨rfl, rfl, rfl, rfl, rfl, rfl, rfl, rfl, rfl, rfl, rfl, rfl, rfl, rfl, trivial⟩ ?_
            refine wQ_then ?_
            refine wC_cond_f rfl ?_
            refine wC_skip ?_
            refine wQ_then ?_
            refine wC_seq ?_
            refine wC_region ?_
            refine wL_val (v := .agg #[.int .i64 ((decM (((l.drop p).drop 2).take (payN (l.drop p)))).1.kind), .int .i64 ((decM (((l.drop p).drop 2).take (payN (l.drop p)))).1.queue), .int .i64 ((decM (((l.drop p).drop 2).take (payN (l.drop p)))).1.epoch), .int .i64 ((decM (((l.drop p).drop 2).take (payN (l.drop p)))).1.peer), .int .i64 ((decM (((l.drop p).drop 2).take (payN (l.drop p)))).1.ev.kind), .int .i64 ((decM (((l.drop p).drop 2).take (payN (l.drop p)))).1.ev.producer), .int .i64 ((decM (((l.drop p).drop 2).take (payN (l.drop p)))).1.ev.id), .int .i64 ((decM (((l.drop p).drop 2).take (payN (l.drop p)))).1.ev.body), .int .i64 ((decM (((l.drop p).drop 2).take (payN (l.drop p)))).1.ev.hepoch), .int .i64 ((decM (((l.drop p).drop 2).take (payN (l.drop p)))).1.ev.hno)]) (wn rfl) rfl rfl (y_load rfl rfl (r_load_row 0 S56 rfl Try.underlying51 rfl inf51 rfl)) ?_
            have HE := fun w => RecordBytes_calls ((decM (((l.drop p).drop 2).take (payN (l.drop p)))).1) w
            rw [enc_dec hdec] at HE
            refine wL_call (vs := [.agg #[.int .i64 ((decM (((l.drop p).drop 2).take (payN (l.drop p)))).1.kind), .int .i64 ((decM (((l.drop p).drop 2).take (payN (l.drop p)))).1.queue), .int .i64 ((decM (((l.drop p).drop 2).take (payN (l.drop p)))).1.epoch), .int .i64 ((decM (((l.drop p).drop 2).take (payN (l.drop p)))).1.peer), .int .i64 ((decM (((l.drop p).drop 2).take (payN (l.drop p)))).1.ev.kind), .int .i64 ((decM (((l.drop p).drop 2).take (payN (l.drop p)))).1.ev.producer), .int .i64 ((decM (((l.drop p).drop 2).take (payN (l.drop p)))).1.ev.id), .int .i64 ((decM (((l.drop p).drop 2).take (payN (l.drop p)))).1.ev.body), .int .i64 ((decM (((l.drop p).drop 2).take (payN (l.drop p)))).1.ev.hepoch), .int .i64 ((decM (((l.drop p).drop 2).take (payN (l.drop p)))).1.ev.hno)]]) (wn rfl) rfl rfl (e_call (vs := [.agg #[.int .i64 ((decM (((l.drop p).drop 2).take (payN (l.drop p)))).1.kind), .int .i64 ((decM (((l.drop p).drop 2).take (payN (l.drop p)))).1.queue), .int .i64 ((decM (((l.drop p).drop 2).take (payN (l.drop p)))).1.epoch), .int .i64 ((decM (((l.drop p).drop 2).take (payN (l.drop p)))).1.peer), .int .i64 ((decM (((l.drop p).drop 2).take (payN (l.drop p)))).1.ev.kind), .int .i64 ((decM (((l.drop p).drop 2).take (payN (l.drop p)))).1.ev.producer), .int .i64 ((decM (((l.drop p).drop 2).take (payN (l.drop p)))).1.ev.id), .int .i64 ((decM (((l.drop p).drop 2).take (payN (l.drop p)))).1.ev.body), .int .i64 ((decM (((l.drop p).drop 2).take (payN (l.drop p)))).1.ev.hepoch), .int .i64 ((decM (((l.drop p).drop 2).take (payN (l.drop p)))).1.ev.hno)]]) rfl en41 ⟨rfl, trivial⟩) (HE _) ?_
            rintro _ w61 ⟨A57, c58, rfl, hb59, hR60⟩
            refine ⟨_, rfl, ?_⟩
            have S62 := S56.on hb59
            clear HE hb59 S56
            replace hR60 : Rd w61 w61.heap.size 1 A57 (payN (l.drop p)) (byteCells (((l.drop p).drop 2).take (payN (l.drop p)))) := by have h := hR60; dsimp only at h; rw [hpl] at h; exact h
            refine wL_val (v := .tuple #[.slice A57 ((((l.drop p).drop 2).take (payN (l.drop p))).length) c58, .int .i64 0]) (wn rfl) rfl rfl (y_move rfl rfl) ?_
            refine wL_val (v := .slice A57 ((((l.drop p).drop 2).take (payN (l.drop p))).length) c58) (wn rfl) rfl rfl (y_extract rfl rfl rfl) ?_
            refine wL_val (v := .int .i64 0) (wn rfl) rfl rfl (y_extract rfl rfl rfl) ?_
            refine wL_val (v := .slice A57 ((((l.drop p).drop 2).take (payN (l.drop p))).length) c58) (wn rfl) rfl rfl (y_assign rfl rfl) ?_
            refine wL_val (v := .int .i64 0) (wn rfl) rfl rfl (y_assign rfl rfl) ?_
            refine wL_nil ?_
            refine wQ_sub (l' := [(0, .agg #[.slice (some ⟨b22, o23, none⟩) l.length c, .int .i64 s]), (1, .pointer (some ⟨b1, 0, none⟩)), (2, .slice none 0 0), (3, .int .i64 0), (4, .int .i64 0), (16, .bool false), (5, .slice A9 m c9), (6, .int .i64 ((p : Nat) : Int)), (22, .bool true), (7, .int .i64 ((payN (l.drop p) : Nat) : Int)), (45, .bool false), (8, .pointer (some ⟨b52, 0, none⟩)), (9, .int .i64 ((decM (((l.drop p).drop 2).take (payN (l.drop p)))).2)), (62, .bool false), (10, .slice A57 ((((l.drop p).drop 2).take (payN (l.drop p))).length) c58)]) ⟨rfl, rfl, rfl, rfl, rfl, rfl, rfl, rfl, rfl, rfl, rfl, rfl, rfl, rfl, rfl, trivial⟩ ?_
            refine wQ_then ?_
            refine wC_seq ?_
            refine wC_region ?_
            refine wL_val (v := .slice A57 ((((l.drop p).drop 2).take (payN (l.drop p))).length) c58) (wn rfl) rfl rfl (y_move rfl rfl) ?_
            have hmn : payN (l.drop p) ≤ 40 := by have := decM_len hdec; omega
            refine wL_call (vs := [.slice A57 ((((l.drop p).drop 2).take (payN (l.drop p))).length) c58]) (wn rfl) rfl rfl (e_call (vs := [.slice A57 ((((l.drop p).drop 2).take (payN (l.drop p))).length) c58]) rfl en139 ⟨rfl, trivial⟩) (framed_calls A57 _ c58 (((l.drop p).drop 2).take (payN (l.drop p))) _ (by rw [hpl]; exact hR60) (by rw [hpl]; omega)) ?_
            rintro _ w67 ⟨A63, c64, rfl, hb65, ho66⟩
            refine ⟨_, rfl, ?_⟩
            rw [bytes_fm] at ho66
            have S68 := S62.onOwn hb65 ho66
            clear hb65 ho66 S62
            have hfr : (frameM (((l.drop p).drop 2).take (payN (l.drop p)))).length = payN (l.drop p) + 6 := by rw [frameM_len, hpl]
            change St _ _ _ [.own 5 1 (.slice A63 ((frameM (((l.drop p).drop 2).take (payN (l.drop p)))).length) c64) ((frameM (((l.drop p).drop 2).take (payN (l.drop p)))).length) ((frameM (((l.drop p).drop 2).take (payN (l.drop p)))).flatMap oneB), .blk b52 #[.int .i64 ((decM (((l.drop p).drop 2).take (payN (l.drop p)))).1.kind), .int .i64 ((decM (((l.drop p).drop 2).take (payN (l.drop p)))).1.queue), .int .i64 ((decM (((l.drop p).drop 2).take (payN (l.drop p)))).1.epoch), .int .i64 ((decM (((l.drop p).drop 2).take (payN (l.drop p)))).1.peer), .int .i64 ((decM (((l.drop p).drop 2).take (payN (l.drop p)))).1.ev.kind), .int .i64 ((decM (((l.drop p).drop 2).take (payN (l.drop p)))).1.ev.producer), .int .i64 ((decM (((l.drop p).drop 2).take (payN (l.drop p)))).1.ev.id), .int .i64 ((decM (((l.drop p).drop 2).take (payN (l.drop p)))).1.ev.body), .int .i64 ((decM (((l.drop p).drop 2).take (payN (l.drop p)))).1.ev.hepoch), .int .i64 ((decM (((l.drop p).drop 2).take (payN (l.drop p)))).1.ev.hno)] 51, .rd 1 A45 (payN (l.drop p)) (byteCells (((l.drop p).drop 2).take (payN (l.drop p)))), .own 51 10 (.slice A9 m c9) m ((acc).flatMap Rcd.cells), .blk b1 #[.slice (some ⟨b22, o23, none⟩) l.length c, .int .i64 s] 80, .rd 1 (some ⟨b22, o23, none⟩) l.length ((l).flatMap oneB)] at S68
            refine wL_val (v := .slice A63 ((frameM (((l.drop p).drop 2).take (payN (l.drop p)))).length) c64) (wn rfl) rfl rfl (y_assign rfl rfl) ?_
            refine wL_nil ?_
            refine wQ_sub (l' := [(0, .agg #[.slice (some ⟨b22, o23, none⟩) l.length c, .int .i64 s]), (1, .pointer (some ⟨b1, 0, none⟩)), (2, .slice none 0 0), (3, .int .i64 0), (4, .int .i64 0), (16, .bool false), (5, .slice A9 m c9), (6, .int .i64 ((p : Nat) : Int)), (22, .bool true), (7, .int .i64 ((payN (l.drop p) : Nat) : Int)), (45, .bool false), (8, .pointer (some ⟨b52, 0, none⟩)), (9, .int .i64 ((decM (((l.drop p).drop 2).take (payN (l.drop p)))).2)), (62, .bool false), (10, .slice A57 ((((l.drop p).drop 2).take (payN (l.drop p))).length) c58), (12, .slice A63 ((frameM (((l.drop p).drop 2).take (payN (l.drop p)))).length) c64)]) ⟨rfl, rfl, rfl, rfl, rfl, rfl, rfl, rfl, rfl, rfl, rfl, rfl, rfl, rfl, rfl, rfl, trivial⟩ ?_
            refine wQ_then ?_
            refine wC_seq ?_
            refine wC_seq ?_
            refine wC_region ?_
            refine wL_val (v := .int .i64 0) (wn rfl) rfl rfl (y_assign rfl rfl) ?_
            refine wL_nil ?_
            refine wQ_then ?_
            refine wC_block ?_
            refine wC_loop (X := Nat) (fun xv => [(0, .agg #[.slice (some ⟨b22, o23, none⟩) l.length c, .int .i64 s]), (1, .pointer (some ⟨b1, 0, none⟩)), (2, .slice none 0 0), (3, .int .i64 0), (4, .int .i64 0), (16, .bool false), (5, .slice A9 m c9), (6, .int .i64 ((p : Nat) : Int)), (22, .bool true), (7, .int .i64 ((payN (l.drop p) : Nat) : Int)), (45, .bool false), (8, .pointer (some ⟨b52, 0, none⟩)), (62, .bool false), (10, .slice A57 ((((l.drop p).drop 2).take (payN (l.drop p))).length) c58), (12, .slice A63 ((frameM (((l.drop p).drop 2).take (payN (l.drop p)))).length) c64), (13, .int .i64 ((xv : Nat) : Int))]) (fun xv wr => (xv ≤ payN (l.drop p) + 6) ∧ ((l.drop p).take xv = (frameM (((l.drop p).drop 2).take (payN (l.drop p)))).take xv) ∧ St w.heap.size w wr [.own 5 1 (.slice A63 ((frameM (((l.drop p).drop 2).take (payN (l.drop p)))).length) c64) ((frameM (((l.drop p).drop 2).take (payN (l.drop p)))).length) ((frameM (((l.drop p).drop 2).take (payN (l.drop p)))).flatMap oneB), .blk b52 #[.int .i64 ((decM (((l.drop p).drop 2).take (payN (l.drop p)))).1.kind), .int .i64 ((decM (((l.drop p).drop 2).take (payN (l.drop p)))).1.queue), .int .i64 ((decM (((l.drop p).drop 2).take (payN (l.drop p)))).1.epoch), .int .i64 ((decM (((l.drop p).drop 2).take (payN (l.drop p)))).1.peer), .int .i64 ((decM (((l.drop p).drop 2).take (payN (l.drop p)))).1.ev.kind), .int .i64 ((decM (((l.drop p).drop 2).take (payN (l.drop p)))).1.ev.producer), .int .i64 ((decM (((l.drop p).drop 2).take (payN (l.drop p)))).1.ev.id), .int .i64 ((decM (((l.drop p).drop 2).take (payN (l.drop p)))).1.ev.body), .int .i64 ((decM (((l.drop p).drop 2).take (payN (l.drop p)))).1.ev.hepoch), .int .i64 ((decM (((l.drop p).drop 2).take (payN (l.drop p)))).1.ev.hno)] 51, .rd 1 A45 (payN (l.drop p)) (byteCells (((l.drop p).drop 2).take (payN (l.drop p)))), .own 51 10 (.slice A9 m c9) m ((acc).flatMap Rcd.cells), .blk b1 #[.slice (some ⟨b22, o23, none⟩) l.length c, .int .i64 s] 80, .rd 1 (some ⟨b22, o23, none⟩) l.length ((l).flatMap oneB)]) (fun xv => payN (l.drop p) + 6 - xv) (0) ?_ ?_ ?_
            · exact ⟨Nat.zero_le _, rfl, S68⟩
            · exact ⟨rfl, rfl, rfl, rfl, rfl, rfl, rfl, rfl, rfl, rfl, rfl, rfl, rfl, rfl, rfl, rfl, trivial⟩
            · rintro j w69 ⟨hi71, hi72, S70⟩
              try dsimp only at hi71 hi72 S70
              clear S68
              refine wC_sub (l' := [(0, .agg #[.slice (some ⟨b22, o23, none⟩) l.length c, .int .i64 s]), (1, .pointer (some ⟨b1, 0, none⟩)), (2, .slice none 0 0), (3, .int .i64 0), (4, .int .i64 0), (16, .bool false), (5, .slice A9 m c9), (6, .int .i64 ((p : Nat) : Int)), (22, .bool true), (7, .int .i64 ((payN (l.drop p) : Nat) : Int)), (45, .bool false), (8, .pointer (some ⟨b52, 0, none⟩)), (62, .bool false), (10, .slice A57 ((((l.drop p).drop 2).take (payN (l.drop p))).length) c58), (12, .slice A63 ((frameM (((l.drop p).drop 2).take (payN (l.drop p)))).length) c64), (13, .int .i64 ((j : Nat) : Int))]) ⟨rfl, rfl, rfl, rfl, rfl, rfl, rfl, rfl, rfl, rfl, rfl, rfl, rfl, rfl, rfl, rfl, trivial⟩ ?_
              refine wC_seq ?_
              refine wC_seq ?_
              refine wC_region ?_
              refine wL_val (v := .int .i64 ((j : Nat) : Int)) (wn rfl) rfl rfl (y_move rfl rfl) ?_
              refine wL_val (v := .slice A63 ((frameM (((l.drop p).drop 2).take (payN (l.drop p)))).length) c64) (wn rfl) rfl rfl (y_move rfl rfl) ?_
              refine wL_val (v := .int .i64 (((frameM (((l.drop p).drop 2).take (payN (l.drop p)))).length : Nat) : Int)) (wn rfl) rfl rfl (y_builtin (vs := [.slice A63 ((frameM (((l.drop p).drop 2).take (payN (l.drop p)))).length) c64]) rfl ⟨rfl, trivial⟩ fun _ => r_len rfl Try.underlying52) ?_
              by_cases hj : j < payN (l.drop p) + 6
              · refine wL_val (v := .bool true) (wn rfl) rfl rfl (y_binop rfl rfl rfl (r_lss_t (by omega))) ?_
                refine wL_nil ?_
                refine wQ_sub (l' := [(0, .agg #[.slice (some ⟨b22, o23, none⟩) l.length c, .int .i64 s]), (1, .pointer (some ⟨b1, 0, none⟩)), (2, .slice none 0 0), (3, .int .i64 0), (4, .int .i64 0), (16, .bool false), (5, .slice A9 m c9), (6, .int .i64 ((p : Nat) : Int)), (22, .bool true), (7, .int .i64 ((payN (l.drop p) : Nat) : Int)), (45, .bool false), (8, .pointer (some ⟨b52, 0, none⟩)), (62, .bool false), (10, .slice A57 ((((l.drop p).drop 2).take (payN (l.drop p))).length) c58), (12, .slice A63 ((frameM (((l.drop p).drop 2).take (payN (l.drop p)))).length) c64), (13, .int .i64 ((j : Nat) : Int)), (75, .bool true)]) ⟨rfl, rfl, rfl, rfl, rfl, rfl, rfl, rfl, rfl, rfl, rfl, rfl, rfl, rfl, rfl, rfl, rfl, trivial⟩ ?_
                refine wQ_then ?_
                refine wC_cond_t rfl ?_
                refine wC_skip ?_
                refine wQ_then ?_
                refine wC_seq ?_
                refine wC_block ?_
                refine wC_seq ?_
                refine wC_quiet S70 mixed (by kernel_rfl) ?_
                refine wU_val (v := .slice A63 ((frameM (((l.drop p).drop 2).take (payN (l.drop p)))).length) c64) (wn rfl) rfl rfl (fun _ _ => (y_move rfl rfl)) ?_
                refine wU_val (v := .int .i64 ((j : Nat) : Int)) (wn rfl) rfl rfl (fun _ _ => (y_move rfl rfl)) ?_
                obtain ⟨b75, o76, rfl⟩ := Rd.addr (St.ord 0 S70 rfl) (by omega)
                obtain ⟨x77, hx78⟩ : ∃ x, (frameM (((l.drop p).drop 2).take (payN (l.drop p))))[j]? = some x := ⟨_, List.getElem?_eq_getElem (by have := (St.ord 0 S70 rfl).1; rw [fm_len (sz := 1) (fun _ => rfl)] at this; omega)⟩
                refine wU_val (v := .pointer (some ⟨b75, o76 + j * 1, none⟩)) (wn rfl) rfl rfl (fun _ _ => (y_indexAddr rfl rfl rfl (r_indexAddr j Try.underlying52 inf5 (by omega) (by omega)))) ?_
                refine wU_val (v := .int .u8 ((x77).toNat : Int)) (wn rfl) rfl rfl (fun _ Sx80 => (y_load rfl rfl (r_load Try.underlying5 rfl (Rd.cl2 (i := 0) (St.ord 0 Sx80 rfl) (fm_get (enc := oneB) (sz := 1) (fun _ => rfl) hx78 rfl))))) ?_
                refine wU_val (v := .pointer (some ⟨b1, 0, none⟩)) (wn rfl) rfl rfl (fun _ _ => (y_fieldAddr rfl rfl (fa80_0 _ _ _))) ?_
                refine wU_val (v := .slice (some ⟨b22, o23, none⟩) l.length c) (wn rfl) rfl rfl (fun _ Sx82 => (y_load rfl rfl (r_load Try.underlying52 rfl (St.cl 4 Sx82 rfl rfl)))) ?_
                refine wU_val (v := .int .i64 ((p : Nat) : Int)) (wn rfl) rfl rfl (fun _ _ => (y_move rfl rfl)) ?_
                refine wU_val (v := .int .i64 ((j : Nat) : Int)) (wn rfl) rfl rfl (fun _ _ => (y_move rfl rfl)) ?_
                refine wU_val (v := .int .i64 ((p + j : Nat) : Int)) (wn rfl) rfl rfl (fun _ _ => (y_binop rfl rfl rfl (r_add (by omega) (by omega)))) ?_
                obtain ⟨x86, hx87⟩ : ∃ x, (l)[p + j]? = some x := ⟨_, List.getElem?_eq_getElem (by have := (St.rd 5 S70 rfl).1; rw [fm_len (sz := 1) (fun _ => rfl)] at this; omega)⟩
                refine wU_val (v := .pointer (some ⟨b22, o23 + (p + j) * 1, none⟩)) (wn rfl) rfl rfl (fun _ _ => (y_indexAddr rfl rfl rfl (r_indexAddr (p + j) Try.underlying52 inf5 (by omega) (by omega)))) ?_
                refine wU_val (v := .int .u8 ((x86).toNat : Int)) (wn rfl) rfl rfl (fun _ Sx89 => (y_load rfl rfl (r_load Try.underlying5 rfl (Rd.cl2 (i := 0) (St.rd 5 Sx89 rfl) (fm_get (enc := oneB) (sz := 1) (fun _ => rfl) hx87 rfl))))) ?_
                by_cases hab : ((x77.toNat : Nat) : Int) = x86.toNat
                · have s2s : (l.drop p).take (j + 1) = (frameM (((l.drop p).drop 2).take (payN (l.drop p)))).take (j + 1) := by rw [List.take_add_one, List.take_add_one, hi72, hx78, List.getElem?_drop, hx87, show x77 = x86 from UInt8.toNat_inj.1 (by omega)]
                  refine wU_val (v := .bool false) (wn rfl) rfl rfl (fun _ _ => (y_binop rfl rfl rfl (r_neq_f hab))) ?_
                  refine wU_nil fun w91 S92 => ?_
                  clear S70
                  refine wQ_sub (l' := [(0, .agg #[.slice (some ⟨b22, o23, none⟩) l.length c, .int .i64 s]), (1, .pointer (some ⟨b1, 0, none⟩)), (2, .slice none 0 0), (3, .int .i64 0), (4, .int .i64 0), (16, .bool false), (5, .slice A9 m c9), (6, .int .i64 ((p : Nat) : Int)), (22, .bool true), (7, .int .i64 ((payN (l.drop p) : Nat) : Int)), (45, .bool false), (8, .pointer (some ⟨b52, 0, none⟩)), (62, .bool false), (10, .slice A57 ((((l.drop p).drop 2).take (payN (l.drop p))).length) c58), (12, .slice (some ⟨b75, o76, none⟩) ((frameM (((l.drop p).drop 2).take (payN (l.drop p)))).length) c64), (13, .int .i64 ((j : Nat) : Int)), (75, .bool true), (89, .bool false)]) ⟨rfl, rfl, rfl, rfl, rfl, rfl, rfl, rfl, rfl, rfl, rfl, rfl, rfl, rfl, rfl, rfl, rfl, rfl, trivial⟩ ?_
                  refine wQ_then ?_
                  refine wC_cond_f rfl ?_
                  refine wC_skip ?_
                  refine wQ_blk_n ?_
                  refine wQ_then ?_
                  refine wC_region ?_
                  refine wL_val (v := .int .i64 ((j : Nat) : Int)) (wn rfl) rfl rfl (y_move rfl rfl) ?_
                  refine wL_val (v := .int .i64 ((j + 1 : Nat) : Int)) (wn rfl) rfl rfl (y_binop rfl rfl rfl (r_add (by omega) (by omega))) ?_
                  refine wL_val (v := .int .i64 ((j + 1 : Nat) : Int)) (wn rfl) rfl rfl (y_assign rfl rfl) ?_
                  refine wL_nil ?_
                  refine wQ_sub (l' := [(0, .agg #[.slice (some ⟨b22, o23, none⟩) l.length c, .int .i64 s]), (1, .pointer (some ⟨b1, 0, none⟩)), (2, .slice none 0 0), (3, .int .i64 0), (4, .int .i64 0), (16, .bool false), (5, .slice A9 m c9), (6, .int .i64 ((p : Nat) : Int)), (22, .bool true), (7, .int .i64 ((payN (l.drop p) : Nat) : Int)), (45, .bool false), (8, .pointer (some ⟨b52, 0, none⟩)), (62, .bool false), (10, .slice A57 ((((l.drop p).drop 2).take (payN (l.drop p))).length) c58), (12, .slice (some ⟨b75, o76, none⟩) ((frameM (((l.drop p).drop 2).take (payN (l.drop p)))).length) c64), (13, .int .i64 ((j + 1 : Nat) : Int)), (75, .bool true), (89, .bool false)]) ⟨rfl, rfl, rfl, rfl, rfl, rfl, rfl, rfl, rfl, rfl, rfl, rfl, rfl, rfl, rfl, rfl, rfl, rfl, trivial⟩ ?_
                  refine wQ_round (j + 1) ?_ ⟨rfl, rfl, rfl, rfl, rfl, rfl, rfl, rfl, rfl, rfl, rfl, rfl, rfl, rfl, rfl, rfl, trivial⟩ (by first | omega | (dsimp only; omega))
                  exact ⟨(by omega), s2s, S92⟩
                · have hst : firstM (l.drop p) = noRcd := firstM_torn (by omega) (by omega) fun e => by have h1 := hx78; rw [e, List.getElem?_take_of_lt (by omega), List.getElem?_drop, hx87] at h1; exact hab (by cases h1; rfl)
                  refine wU_val (v := .bool true) (wn rfl) rfl rfl (fun _ _ => (y_binop rfl rfl rfl (r_neq_t hab))) ?_
                  refine wU_nil fun w94 S95 => ?_
                  clear S70
                  refine wQ_sub (l' := [(0, .agg #[.slice (some ⟨b22, o23, none⟩) l.length c, .int .i64 s]), (1, .pointer (some ⟨b1, 0, none⟩)), (2, .slice none 0 0), (3, .int .i64 0), (4, .int .i64 0), (16, .bool false), (5, .slice A9 m c9), (6, .int .i64 ((p : Nat) : Int)), (22, .bool true), (7, .int .i64 ((payN (l.drop p) : Nat) : Int)), (45, .bool false), (8, .pointer (some ⟨b52, 0, none⟩)), (62, .bool false), (10, .slice A57 ((((l.drop p).drop 2).take (payN (l.drop p))).length) c58), (12, .slice (some ⟨b75, o76, none⟩) ((frameM (((l.drop p).drop 2).take (payN (l.drop p)))).length) c64), (13, .int .i64 ((j : Nat) : Int)), (75, .bool true), (89, .bool true)]) ⟨rfl, rfl, rfl, rfl, rfl, rfl, rfl, rfl, rfl, rfl, rfl, rfl, rfl, rfl, rfl, rfl, rfl, rfl, trivial⟩ ?_
                  refine wQ_then ?_
                  refine wC_cond_t rfl ?_
                  refine wC_seq ?_
                  refine wC_region ?_
                  refine wL_val (v := .slice A9 m c9) (wn rfl) rfl rfl (y_move rfl rfl) ?_
                  refine wL_val (v := .int .i64 ((p : Nat) : Int)) (wn rfl) rfl rfl (y_move rfl rfl) ?_
                  refine wL_val (v := .slice A9 m c9) (wn rfl) rfl rfl (y_assign rfl rfl) ?_
                  refine wL_val (v := .int .i64 ((p : Nat) : Int)) (wn rfl) rfl rfl (y_assign rfl rfl) ?_
                  refine wL_val (v := .int .i64 0) (wn rfl) rfl rfl (y_assign rfl rfl) ?_
                  refine wL_nil ?_
                  refine wQ_sub (l' := [(0, .agg #[.slice (some ⟨b22, o23, none⟩) l.length c, .int .i64 s]), (1, .pointer (some ⟨b1, 0, none⟩)), (2, .slice A9 m c9), (3, .int .i64 ((p : Nat) : Int)), (4, .int .i64 0), (16, .bool false), (5, .slice A9 m c9), (6, .int .i64 ((p : Nat) : Int)), (22, .bool true), (7, .int .i64 ((payN (l.drop p) : Nat) : Int)), (45, .bool false), (8, .pointer (some ⟨b52, 0, none⟩)), (62, .bool false), (10, .slice A57 ((((l.drop p).drop 2).take (payN (l.drop p))).length) c58), (12, .slice (some ⟨b75, o76, none⟩) ((frameM (((l.drop p).drop 2).take (payN (l.drop p)))).length) c64), (13, .int .i64 ((j : Nat) : Int)), (75, .bool true), (89, .bool true)]) ⟨rfl, rfl, rfl, rfl, rfl, rfl, rfl, rfl, rfl, rfl, rfl, rfl, rfl, rfl, rfl, rfl, rfl, rfl, trivial⟩ ?_
                  refine wQ_then ?_
                  refine wC_ret ?_
                  refine wQ_blk_ret ?_
                  refine wQ_then_ret ?_
                  refine wQ_then_ret ?_
                  refine wQ_blk_ret ?_
                  refine wQ_then_ret ?_
                  refine wQ_blk_ret ?_
                  refine wQ_then_ret ?_
                  refine wQ_blk_ret ?_
                  refine wQ_then_ret ?_
                  refine wQ_post (rs := [.tmp 2, .tmp 3, .tmp 4]) (vs := [.slice A9 m c9, .int .i64 ((p : Nat) : Int), .int .i64 0]) rfl ⟨rfl, rfl, rfl, trivial⟩ ?_
                  have S96 : St w.heap.size w w94 [.own 51 10 (.slice A9 m c9) m ((acc).flatMap Rcd.cells)] := (St.del 0 (St.del 1 (St.del 2 (St.del 4 (St.del 5 S95)))))
                  clear S95
                  have hz : readM l s = (acc, p, 0) := readM_end hm hi14 (by rw [hst]; rfl)
                  rw [hz]
                  subst hi17
                  exact ⟨_, _, rfl, S96⟩
              · obtain rfl : j = payN (l.drop p) + 6 := by omega
                have hgo : firstM (l.drop p) = ((decM (((l.drop p).drop 2).take (payN (l.drop p)))).1, payN (l.drop p) + 6) := firstM_frame (by omega) (by omega) hdec (by have h := hi72; rw [List.take_of_length_le (by omega : (frameM (((l.drop p).drop 2).take (payN (l.drop p)))).length ≤ payN (l.drop p) + 6)] at h; exact h.symm)
                refine wL_val (v := .bool false) (wn rfl) rfl rfl (y_binop rfl rfl rfl (r_lss_f (by omega))) ?_
                refine wL_nil ?_
                refine wQ_sub (l' := [(0, .agg #[.slice (some ⟨b22, o23, none⟩) l.length c, .int .i64 s]), (1, .pointer (some ⟨b1, 0, none⟩)), (2, .slice none 0 0), (3, .int .i64 0), (4, .int .i64 0), (16, .bool false), (5, .slice A9 m c9), (6, .int .i64 ((p : Nat) : Int)), (22, .bool true), (7, .int .i64 ((payN (l.drop p) : Nat) : Int)), (45, .bool false), (8, .pointer (some ⟨b52, 0, none⟩)), (62, .bool false), (10, .slice A57 ((((l.drop p).drop 2).take (payN (l.drop p))).length) c58), (12, .slice A63 ((frameM (((l.drop p).drop 2).take (payN (l.drop p)))).length) c64), (13, .int .i64 ((payN (l.drop p) + 6 : Nat) : Int)), (75, .bool false)]) ⟨rfl, rfl, rfl, rfl, rfl, rfl, rfl, rfl, rfl, rfl, rfl, rfl, rfl, rfl, rfl, rfl, rfl, trivial⟩ ?_
                refine wQ_then ?_
                refine wC_cond_f rfl ?_
                refine wC_exit ?_
                refine wQ_then_exit ?_
                refine wQ_then_exit ?_
                refine wQ_blk_same ?_
                refine wQ_then ?_
                refine wC_seq ?_
                refine wC_region ?_
                refine wL_val (v := .slice A9 m c9) (wn rfl) rfl rfl (y_move rfl rfl) ?_
                refine wL_val (v := .agg #[.int .i64 ((decM (((l.drop p).drop 2).take (payN (l.drop p)))).1.kind), .int .i64 ((decM (((l.drop p).drop 2).take (payN (l.drop p)))).1.queue), .int .i64 ((decM (((l.drop p).drop 2).take (payN (l.drop p)))).1.epoch), .int .i64 ((decM (((l.drop p).drop 2).take (payN (l.drop p)))).1.peer), .int .i64 ((decM (((l.drop p).drop 2).take (payN (l.drop p)))).1.ev.kind), .int .i64 ((decM (((l.drop p).drop 2).take (payN (l.drop p)))).1.ev.producer), .int .i64 ((decM (((l.drop p).drop 2).take (payN (l.drop p)))).1.ev.id), .int .i64 ((decM (((l.drop p).drop 2).take (payN (l.drop p)))).1.ev.body), .int .i64 ((decM (((l.drop p).drop 2).take (payN (l.drop p)))).1.ev.hepoch), .int .i64 ((decM (((l.drop p).drop 2).take (payN (l.drop p)))).1.ev.hno)]) (wn rfl) rfl rfl (y_load rfl rfl (r_load_row 1 S70 rfl Try.underlying51 rfl inf51 rfl)) ?_
                refine wL_new (V := fun b => .slice (some ⟨b, 0, none⟩) 1 1) (row := #[.int .i64 ((decM (((l.drop p).drop 2).take (payN (l.drop p)))).1.kind), .int .i64 ((decM (((l.drop p).drop 2).take (payN (l.drop p)))).1.queue), .int .i64 ((decM (((l.drop p).drop 2).take (payN (l.drop p)))).1.epoch), .int .i64 ((decM (((l.drop p).drop 2).take (payN (l.drop p)))).1.peer), .int .i64 ((decM (((l.drop p).drop 2).take (payN (l.drop p)))).1.ev.kind), .int .i64 ((decM (((l.drop p).drop 2).take (payN (l.drop p)))).1.ev.producer), .int .i64 ((decM (((l.drop p).drop 2).take (payN (l.drop p)))).1.ev.id), .int .i64 ((decM (((l.drop p).drop 2).take (payN (l.drop p)))).1.ev.body), .int .i64 ((decM (((l.drop p).drop 2).take (payN (l.drop p)))).1.ev.hepoch), .int .i64 ((decM (((l.drop p).drop 2).take (payN (l.drop p)))).1.ev.hno)]) (t := 51) S70 (wn rfl) rfl rfl (d_buildSlice (vs := [(0, .agg #[.int .i64 ((decM (((l.drop p).drop 2).take (payN (l.drop p)))).1.kind), .int .i64 ((decM (((l.drop p).drop 2).take (payN (l.drop p)))).1.queue), .int .i64 ((decM (((l.drop p).drop 2).take (payN (l.drop p)))).1.epoch), .int .i64 ((decM (((l.drop p).drop 2).take (payN (l.drop p)))).1.peer), .int .i64 ((decM (((l.drop p).drop 2).take (payN (l.drop p)))).1.ev.kind), .int .i64 ((decM (((l.drop p).drop 2).take (payN (l.drop p)))).1.ev.producer), .int .i64 ((decM (((l.drop p).drop 2).take (payN (l.drop p)))).1.ev.id), .int .i64 ((decM (((l.drop p).drop 2).take (payN (l.drop p)))).1.ev.body), .int .i64 ((decM (((l.drop p).drop 2).take (payN (l.drop p)))).1.ev.hepoch), .int .i64 ((decM (((l.drop p).drop 2).take (payN (l.drop p)))).1.ev.hno)])]) rfl ⟨rfl, rfl, trivial⟩ (by kernel_rfl)) ?_
                intro b97 w98 S99
                clear S70
                refine wL_append (news := [.int .i64 ((decM (((l.drop p).drop 2).take (payN (l.drop p)))).1.kind), .int .i64 ((decM (((l.drop p).drop 2).take (payN (l.drop p)))).1.queue), .int .i64 ((decM (((l.drop p).drop 2).take (payN (l.drop p)))).1.epoch), .int .i64 ((decM (((l.drop p).drop 2).take (payN (l.drop p)))).1.peer), .int .i64 ((decM (((l.drop p).drop 2).take (payN (l.drop p)))).1.ev.kind), .int .i64 ((decM (((l.drop p).drop 2).take (payN (l.drop p)))).1.ev.producer), .int .i64 ((decM (((l.drop p).drop 2).take (payN (l.drop p)))).1.ev.id), .int .i64 ((decM (((l.drop p).drop 2).take (payN (l.drop p)))).1.ev.body), .int .i64 ((decM (((l.drop p).drop 2).take (payN (l.drop p)))).1.ev.hepoch), .int .i64 ((decM (((l.drop p).drop 2).take (payN (l.drop p)))).1.ev.hno)]) (xs' := (acc ++ [(decM (((l.drop p).drop 2).take (payN (l.drop p)))).1]).flatMap Rcd.cells) 4 S99 (wn rfl) rfl rfl rfl rfl rfl rfl (St.bld (xs := [.int .i64 ((decM (((l.drop p).drop 2).take (payN (l.drop p)))).1.kind), .int .i64 ((decM (((l.drop p).drop 2).take (payN (l.drop p)))).1.queue), .int .i64 ((decM (((l.drop p).drop 2).take (payN (l.drop p)))).1.epoch), .int .i64 ((decM (((l.drop p).drop 2).take (payN (l.drop p)))).1.peer), .int .i64 ((decM (((l.drop p).drop 2).take (payN (l.drop p)))).1.ev.kind), .int .i64 ((decM (((l.drop p).drop 2).take (payN (l.drop p)))).1.ev.producer), .int .i64 ((decM (((l.drop p).drop 2).take (payN (l.drop p)))).1.ev.id), .int .i64 ((decM (((l.drop p).drop 2).take (payN (l.drop p)))).1.ev.body), .int .i64 ((decM (((l.drop p).drop 2).take (payN (l.drop p)))).1.ev.hepoch), .int .i64 ((decM (((l.drop p).drop 2).take (payN (l.drop p)))).1.ev.hno)]) 0 S99 rfl rfl rfl) Try.underlying86 infz51 rfl (by decide) (oneAll rfl) (by simp only [maxLen]; omega) (by omega) (fm_snoc (enc := Rcd.cells) rfl rfl) ?_
                intro A100 c101 w102 hc104 hm105 S103
                clear S99
                change St _ _ _ [.blk b97 #[.int .i64 ((decM (((l.drop p).drop 2).take (payN (l.drop p)))).1.kind), .int .i64 ((decM (((l.drop p).drop 2).take (payN (l.drop p)))).1.queue), .int .i64 ((decM (((l.drop p).drop 2).take (payN (l.drop p)))).1.epoch), .int .i64 ((decM (((l.drop p).drop 2).take (payN (l.drop p)))).1.peer), .int .i64 ((decM (((l.drop p).drop 2).take (payN (l.drop p)))).1.ev.kind), .int .i64 ((decM (((l.drop p).drop 2).take (payN (l.drop p)))).1.ev.producer), .int .i64 ((decM (((l.drop p).drop 2).take (payN (l.drop p)))).1.ev.id), .int .i64 ((decM (((l.drop p).drop 2).take (payN (l.drop p)))).1.ev.body), .int .i64 ((decM (((l.drop p).drop 2).take (payN (l.drop p)))).1.ev.hepoch), .int .i64 ((decM (((l.drop p).drop 2).take (payN (l.drop p)))).1.ev.hno)] 51, .own 5 1 (.slice A63 ((frameM (((l.drop p).drop 2).take (payN (l.drop p)))).length) c64) ((frameM (((l.drop p).drop 2).take (payN (l.drop p)))).length) ((frameM (((l.drop p).drop 2).take (payN (l.drop p)))).flatMap oneB), .blk b52 #[.int .i64 ((decM (((l.drop p).drop 2).take (payN (l.drop p)))).1.kind), .int .i64 ((decM (((l.drop p).drop 2).take (payN (l.drop p)))).1.queue), .int .i64 ((decM (((l.drop p).drop 2).take (payN (l.drop p)))).1.epoch), .int .i64 ((decM (((l.drop p).drop 2).take (payN (l.drop p)))).1.peer), .int .i64 ((decM (((l.drop p).drop 2).take (payN (l.drop p)))).1.ev.kind), .int .i64 ((decM (((l.drop p).drop 2).take (payN (l.drop p)))).1.ev.producer), .int .i64 ((decM (((l.drop p).drop 2).take (payN (l.drop p)))).1.ev.id), .int .i64 ((decM (((l.drop p).drop 2).take (payN (l.drop p)))).1.ev.body), .int .i64 ((decM (((l.drop p).drop 2).take (payN (l.drop p)))).1.ev.hepoch), .int .i64 ((decM (((l.drop p).drop 2).take (payN (l.drop p)))).1.ev.hno)] 51, .rd 1 A45 (payN (l.drop p)) (byteCells (((l.drop p).drop 2).take (payN (l.drop p)))), .own 51 10 (.slice A100 (m + 1) c101) (m + 1) ((acc ++ [(decM (((l.drop p).drop 2).take (payN (l.drop p)))).1]).flatMap Rcd.cells), .blk b1 #[.slice (some ⟨b22, o23, none⟩) l.length c, .int .i64 s] 80, .rd 1 (some ⟨b22, o23, none⟩) l.length ((l).flatMap oneB)] at S103
                refine wL_val (v := .slice A100 (m + 1) c101) (wn rfl) rfl rfl (y_assign rfl rfl) ?_
                refine wL_nil ?_
                refine wQ_sub (l' := [(0, .agg #[.slice (some ⟨b22, o23, none⟩) l.length c, .int .i64 s]), (1, .pointer (some ⟨b1, 0, none⟩)), (2, .slice none 0 0), (3, .int .i64 0), (4, .int .i64 0), (16, .bool false), (5, .slice A100 (m + 1) c101), (6, .int .i64 ((p : Nat) : Int)), (22, .bool true), (7, .int .i64 ((payN (l.drop p) : Nat) : Int)), (45, .bool false), (8, .pointer (some ⟨b52, 0, none⟩)), (62, .bool false), (10, .slice A57 ((((l.drop p).drop 2).take (payN (l.drop p))).length) c58), (12, .slice A63 ((frameM (((l.drop p).drop 2).take (payN (l.drop p)))).length) c64), (13, .int .i64 ((payN (l.drop p) + 6 : Nat) : Int)), (75, .bool false)]) ⟨rfl, rfl, rfl, rfl, rfl, rfl, rfl, rfl, rfl, rfl, rfl, rfl, rfl, rfl, rfl, rfl, rfl, trivial⟩ ?_
                refine wQ_then ?_
                refine wC_region ?_
                refine wL_val (v := .int .i64 ((p : Nat) : Int)) (wn rfl) rfl rfl (y_move rfl rfl) ?_
                refine wL_val (v := .int .i64 ((payN (l.drop p) : Nat) : Int)) (wn rfl) rfl rfl (y_move rfl rfl) ?_
                refine wL_val (v := .int .i64 ((p + (payN (l.drop p)) : Nat) : Int)) (wn rfl) rfl rfl (y_binop rfl rfl rfl (r_add (by omega) (by omega))) ?_
                refine wL_val (v := .int .i64 (((p + (payN (l.drop p))) + 6 : Nat) : Int)) (wn rfl) rfl rfl (y_binop rfl rfl rfl (r_add (by omega) (by omega))) ?_
                refine wL_val (v := .int .i64 (((p + (payN (l.drop p))) + 6 : Nat) : Int)) (wn rfl) rfl rfl (y_assign rfl rfl) ?_
                refine wL_nil ?_
                refine wQ_sub (l' := [(0, .agg #[.slice (some ⟨b22, o23, none⟩) l.length c, .int .i64 s]), (1, .pointer (some ⟨b1, 0, none⟩)), (2, .slice none 0 0), (3, .int .i64 0), (4, .int .i64 0), (16, .bool false), (5, .slice A100 (m + 1) c101), (6, .int .i64 (((p + (payN (l.drop p))) + 6 : Nat) : Int)), (22, .bool true), (7, .int .i64 ((payN (l.drop p) : Nat) : Int)), (45, .bool false), (8, .pointer (some ⟨b52, 0, none⟩)), (62, .bool false), (10, .slice A57 ((((l.drop p).drop 2).take (payN (l.drop p))).length) c58), (12, .slice A63 ((frameM (((l.drop p).drop 2).take (payN (l.drop p)))).length) c64), (13, .int .i64 ((payN (l.drop p) + 6 : Nat) : Int)), (75, .bool false)]) ⟨rfl, rfl, rfl, rfl, rfl, rfl, rfl, rfl, rfl, rfl, rfl, rfl, rfl, rfl, rfl, rfl, rfl, trivial⟩ ?_
                refine wQ_blk_n ?_
                have S106 : St w.heap.size w w102 [.own 51 10 (.slice A100 (m + 1) c101) (m + 1) ((acc ++ [(decM (((l.drop p).drop 2).take (payN (l.drop p)))).1]).flatMap Rcd.cells), .blk b1 #[.slice (some ⟨b22, o23, none⟩) l.length c, .int .i64 s] 80, .rd 1 (some ⟨b22, o23, none⟩) l.length ((l).flatMap oneB)] := (St.del 0 (St.del 1 (St.del 2 (St.del 3 S103))))
                clear S103
                have hz := readsM_next hi14 (by rw [hgo]; omega)
                rw [hgo] at hz
                refine wQ_round (acc ++ [(decM (((l.drop p).drop 2).take (payN (l.drop p)))).1], p + (payN (l.drop p) + 6), m + 1, A100, c101) ?_ ⟨rfl, rfl, rfl, rfl, rfl, rfl, rfl, rfl, trivial⟩ (by first | omega | (dsimp only; omega))
                exact ⟨hz, (by dsimp only; omega), (by dsimp only; omega), (by dsimp only; simp [hi17]), S106⟩
          · have hst : firstM (l.drop p) = noRcd := firstM_bad (by omega) (by omega) hdec
            refine wL_val (v := .bool true) (wn rfl) rfl rfl (y_binop rfl rfl rfl (r_neq_t hdec)) ?_
            refine wL_nil ?_
            refine wQ_sub (l' := [(0, .agg #[.slice (some ⟨b22, o23, none⟩) l.length c, .int .i64 s]), (1, .pointer (some ⟨b1, 0, none⟩)), (2, .slice none 0 0), (3, .int .i64 0), (4, .int .i64 0), (16, .bool false), (5, .slice A9 m c9), (6, .int .i64 ((p : Nat) : Int)), (22, .bool true), (7, .int .i64 ((payN (l.drop p) : Nat) : Int)), (45, .bool false), (8, .pointer (some ⟨b52, 0, none⟩)), (9, .int .i64 ((decM (((l.drop p).drop 2).take (payN (l.drop p)))).2)), (62, .bool true)]) ⟨rfl, rfl, rfl, rfl, rfl, rfl, rfl, rfl, rfl, rfl, rfl, rfl, rfl, rfl, trivial⟩ ?_
            refine wQ_then ?_
            refine wC_cond_t rfl ?_
            refine wC_seq ?_
            refine wC_region ?_
            refine wL_val (v := .slice A9 m c9) (wn rfl) rfl rfl (y_move rfl rfl) ?_
            refine wL_val (v := .int .i64 ((p : Nat) : Int)) (wn rfl) rfl rfl (y_move rfl rfl) ?_
            refine wL_val (v := .slice A9 m c9) (wn rfl) rfl rfl (y_assign rfl rfl) ?_
            refine wL_val (v := .int .i64 ((p : Nat) : Int)) (wn rfl) rfl rfl (y_assign rfl rfl) ?_
            refine wL_val (v := .int .i64 0) (wn rfl) rfl rfl (y_assign rfl rfl) ?_
            refine wL_nil ?_
            refine wQ_sub (l' := [(0, .agg #[.slice (some ⟨b22, o23, none⟩) l.length c, .int .i64 s]), (1, .pointer (some ⟨b1, 0, none⟩)), (2, .slice A9 m c9), (3, .int .i64 ((p : Nat) : Int)), (4, .int .i64 0), (16, .bool false), (5, .slice A9 m c9), (6, .int .i64 ((p : Nat) : Int)), (22, .bool true), (7, .int .i64 ((payN (l.drop p) : Nat) : Int)), (45, .bool false), (8, .pointer (some ⟨b52, 0, none⟩)), (9, .int .i64 ((decM (((l.drop p).drop 2).take (payN (l.drop p)))).2)), (62, .bool true)]) ⟨rfl, rfl, rfl, rfl, rfl, rfl, rfl, rfl, rfl, rfl, rfl, rfl, rfl, rfl, trivial⟩ ?_
            refine wQ_then ?_
            refine wC_ret ?_
            refine wQ_then_ret ?_
            refine wQ_blk_ret ?_
            refine wQ_then_ret ?_
            refine wQ_blk_ret ?_
            refine wQ_then_ret ?_
            refine wQ_post (rs := [.tmp 2, .tmp 3, .tmp 4]) (vs := [.slice A9 m c9, .int .i64 ((p : Nat) : Int), .int .i64 0]) rfl ⟨rfl, rfl, rfl, trivial⟩ ?_
            have S107 : St w.heap.size w w55 [.own 51 10 (.slice A9 m c9) m ((acc).flatMap Rcd.cells)] := (St.del 0 (St.del 1 (St.del 3 (St.del 4 S56))))
            clear S56
            have hz : readM l s = (acc, p, 0) := readM_end hm hi14 (by rw [hst]; rfl)
            rw [hz]
            subst hi17
            exact ⟨_, _, rfl, S107⟩
      · have hst : firstM (l.drop p) = noRcd := firstM_short (by omega)
        refine wL_val (v := .bool false) (wn rfl) rfl rfl (y_binop rfl rfl rfl (r_leq_f (by omega))) ?_
        refine wL_nil ?_
        refine wQ_sub (l' := [(0, .agg #[.slice A l.length c, .int .i64 s]), (1, .pointer (some ⟨b1, 0, none⟩)), (2, .slice none 0 0), (3, .int .i64 0), (4, .int .i64 0), (16, .bool false), (5, .slice A9 m c9), (6, .int .i64 ((p : Nat) : Int)), (22, .bool false)]) ⟨rfl, rfl, rfl, rfl, rfl, rfl, rfl, rfl, rfl, trivial⟩ ?_
        refine wQ_then ?_
        refine wC_cond_f rfl ?_
        refine wC_exit ?_
        refine wQ_then_exit ?_
        refine wQ_then_exit ?_
        refine wQ_blk_same ?_
        refine wQ_then ?_
        refine wC_seq ?_
        refine wC_region ?_
        refine wL_val (v := .slice A9 m c9) (wn rfl) rfl rfl (y_move rfl rfl) ?_
        refine wL_val (v := .int .i64 ((p : Nat) : Int)) (wn rfl) rfl rfl (y_move rfl rfl) ?_
        refine wL_val (v := .slice A9 m c9) (wn rfl) rfl rfl (y_assign rfl rfl) ?_
        refine wL_val (v := .int .i64 ((p : Nat) : Int)) (wn rfl) rfl rfl (y_assign rfl rfl) ?_
        refine wL_val (v := .int .i64 0) (wn rfl) rfl rfl (y_assign rfl rfl) ?_
        refine wL_nil ?_
        refine wQ_sub (l' := [(0, .agg #[.slice A l.length c, .int .i64 s]), (1, .pointer (some ⟨b1, 0, none⟩)), (2, .slice A9 m c9), (3, .int .i64 ((p : Nat) : Int)), (4, .int .i64 0), (16, .bool false), (5, .slice A9 m c9), (6, .int .i64 ((p : Nat) : Int)), (22, .bool false)]) ⟨rfl, rfl, rfl, rfl, rfl, rfl, rfl, rfl, rfl, trivial⟩ ?_
        refine wQ_then ?_
        refine wC_ret ?_
        refine wQ_post (rs := [.tmp 2, .tmp 3, .tmp 4]) (vs := [.slice A9 m c9, .int .i64 ((p : Nat) : Int), .int .i64 0]) rfl ⟨rfl, rfl, rfl, trivial⟩ ?_
        have S108 : St w.heap.size w w12 [.own 51 10 (.slice A9 m c9) m ((acc).flatMap Rcd.cells)] := (St.del 1 (St.del 2 S13))
        clear S13
        have hz : readM l s = (acc, p, 0) := readM_end hm hi14 (by rw [hst]; rfl)
        rw [hz]
        subst hi17
        exact ⟨_, _, rfl, S108⟩
end Go.Proofs.Ytkjlafpafmihaaa
