/- Contract: tape.first. (The steps are printed by a program of mine: wip/px.) -/
import Derived.Test.YtkjlafpafmihaaaTp
namespace Go.Proofs.Ytkjlafpafmihaaa
open Go.ChangeShapes Go.WideShapes Go.RowKit

def oneB (x : UInt8) : List Value := [.int .u8 x.toNat]
theorem bytes_fm (l : List UInt8) : byteCells l = l.flatMap oneB := by
  induction l with
  | nil => rfl
  | cons a l ih => rw [List.flatMap_cons, ← ih]; rfl
theorem rd_f {w : World} {B : Nat} {A : Option Addr} {n : Nat} {l : List UInt8} (h : Rd w B 1 A n (byteCells l)) : Rd w B 1 A n (l.flatMap oneB) := bytes_fm l ▸ h
theorem rd_b {w : World} {B : Nat} {A : Option Addr} {n : Nat} {l : List UInt8} (h : Rd w B 1 A n (l.flatMap oneB)) : Rd w B 1 A n (byteCells l) := (bytes_fm l).symm ▸ h
theorem take44 {l : List UInt8} : (l.take 4).take 4 = l.take 4 := by simp [List.take_take]
theorem numB_step {l : List UInt8} {k : Nat} {x : UInt8} (h : l[k]? = some x) : numB (l.take k) * 256 + (x.toNat : Int) = numB (l.take (k + 1)) := by
  rw [List.take_add_one, h, ← numB_snoc]
  rfl
def FirstPost (w : World) (r : Rcd × Nat) (e : Ending) (w' : World) : Prop := e = .returned (.tuple #[r.1.val, .int .i64 (r.2 : Int)]) ∧ Below w.heap.size w w'

set_option maxRecDepth 100000 in
set_option maxHeartbeats 2000000 in
theorem first_calls (A : Option Addr) (c : Nat) (b : List UInt8) (w : World) (h : Rd w w.heap.size 1 A b.length (byteCells b)) (hn : b.length ≤ c) (hcm : c ≤ 9223372036854775807) (hb : b.length ≤ 100000) :
    Calls Try.prog 141 #[.slice A b.length c] w (FirstPost w (firstM b)) := by
  have S := (St.start w).addRd (rd_f h)
  clear h
  refine calls_of_wC (N := 69) (vs := [.slice A b.length c]) Try.func141 rfl rfl rfl ?_
  refine wC_sub (l' := [(0, .slice A b.length c)]) ⟨rfl, trivial⟩ ?_
  refine wC_seq ?_
  refine wC_region ?_
  refine wL_new (V := fun b => .pointer (some ⟨b, 0, none⟩)) (row := #[.int .i64 0, .int .i64 0, .int .i64 0, .int .i64 0, .int .i64 0, .int .i64 0, .int .i64 0, .int .i64 0, .int .i64 0, .int .i64 0]) (t := 51) S (wn rfl) rfl rfl (d_alloc rfl (Try.zeroValue51 _) rfl) ?_
  intro b1 w2 S3
  clear S
  refine wL_val (v := .int .i64 0) (wn rfl) rfl rfl (y_assign rfl rfl) ?_
  refine wL_nil ?_
  refine wQ_then ?_
  refine wC_seq ?_
  refine wC_seq ?_
  refine wC_region ?_
  refine wL_val (v := .slice A b.length c) (wn rfl) rfl rfl (y_move rfl rfl) ?_
  refine wL_val (v := .int .i64 ((b.length : Nat) : Int)) (wn rfl) rfl rfl (y_builtin (vs := [.slice A b.length c]) rfl ⟨rfl, trivial⟩ fun _ => r_len rfl Try.underlying52) ?_
  by_cases h4 : ((b.length : Nat) : Int) < 2
  · refine wL_val (v := .bool true) (wn rfl) rfl rfl (y_binop rfl rfl rfl (r_lss_t h4)) ?_
    refine wL_nil ?_
    refine wQ_sub (l' := [(0, .slice A b.length c), (2, .pointer (some ⟨b1, 0, none⟩)), (3, .int .i64 0), (12, .bool true)]) ⟨rfl, rfl, rfl, rfl, trivial⟩ ?_
    refine wQ_then ?_
    refine wC_cond_t rfl ?_
    refine wC_seq ?_
    refine wC_region ?_
    refine wL_val (v := .agg #[.int .i64 0, .int .i64 0, .int .i64 0, .int .i64 0, .int .i64 0, .int .i64 0, .int .i64 0, .int .i64 0, .int .i64 0, .int .i64 0]) (wn rfl) rfl rfl (y_build (vs := []) rfl trivial (by kernel_rfl)) ?_
    refine wL_st (cs := #[.int .i64 0, .int .i64 0, .int .i64 0, .int .i64 0, .int .i64 0, .int .i64 0, .int .i64 0, .int .i64 0, .int .i64 0, .int .i64 0]) (row' := #[.int .i64 0, .int .i64 0, .int .i64 0, .int .i64 0, .int .i64 0, .int .i64 0, .int .i64 0, .int .i64 0, .int .i64 0, .int .i64 0]) (fs' := [.blk b1 #[.int .i64 0, .int .i64 0, .int .i64 0, .int .i64 0, .int .i64 0, .int .i64 0, .int .i64 0, .int .i64 0, .int .i64 0, .int .i64 0] 51, .rd 1 A b.length ((b).flatMap oneB) ]) 0 S3 (wn rfl) rfl rfl rfl rfl rfl rfl inf51 rfl (oneAll rfl) (Nat.le_of_ble_eq_true rfl) (setAll_all rfl) rfl ?_
    intro w5 S6
    clear S3
    refine wL_val (v := .int .i64 0) (wn rfl) rfl rfl (y_assign rfl rfl) ?_
    refine wL_nil ?_
    refine wQ_sub (l' := [(0, .slice A b.length c), (2, .pointer (some ⟨b1, 0, none⟩)), (3, .int .i64 0), (12, .bool true)]) ⟨rfl, rfl, rfl, rfl, trivial⟩ ?_
    refine wQ_then ?_
    refine wC_ret ?_
    refine wQ_then_ret ?_
    refine wQ_post (rs := [.cell 2 51, .tmp 3]) (vs := [.agg #[.int .i64 0, .int .i64 0, .int .i64 0, .int .i64 0, .int .i64 0, .int .i64 0, .int .i64 0, .int .i64 0, .int .i64 0, .int .i64 0], .int .i64 0]) rfl ⟨⟨_, rfl, res_row 0 S6 rfl Try.underlying51 rfl inf51⟩, rfl, trivial⟩ ?_
    exact ⟨by rw [firstM_short (by omega)]; rfl, S6.low⟩
  · refine wL_val (v := .bool false) (wn rfl) rfl rfl (y_binop rfl rfl rfl (r_lss_f h4)) ?_
    refine wL_nil ?_
    refine wQ_sub (l' := [(0, .slice A b.length c), (2, .pointer (some ⟨b1, 0, none⟩)), (3, .int .i64 0), (12, .bool false)]) ⟨rfl, rfl, rfl, rfl, trivial⟩ ?_
    refine wQ_then ?_
    refine wC_cond_f rfl ?_
    refine wC_skip ?_
    refine wQ_then ?_
    refine wC_seq ?_
    refine wC_quiet S3 mixed (by kernel_rfl) ?_
    refine wU_val (v := .slice A b.length c) (wn rfl) rfl rfl (fun _ _ => (y_move rfl rfl)) ?_
    obtain ⟨b8, o9, rfl⟩ := Rd.addr (St.rd 1 S3 rfl) (by omega)
    obtain ⟨x10, hx11⟩ : ∃ x, (b)[0]? = some x := ⟨_, List.getElem?_eq_getElem (by have := (St.rd 1 S3 rfl).1; rw [fm_len (sz := 1) (fun _ => rfl)] at this; omega)⟩
    refine wU_val (v := .pointer (some ⟨b8, o9 + 0 * 1, none⟩)) (wn rfl) rfl rfl (fun _ _ => (y_indexAddr rfl rfl rfl (r_indexAddr 0 Try.underlying52 inf5 (by omega) (by omega)))) ?_
    refine wU_val (v := .int .u8 ((x10).toNat : Int)) (wn rfl) rfl rfl (fun _ Sx13 => (y_load rfl rfl (r_load Try.underlying5 rfl (Rd.cl2 (i := 0) (St.rd 1 Sx13 rfl) (fm_get (enc := oneB) (sz := 1) (fun _ => rfl) hx11 rfl))))) ?_
    refine wU_val (v := .int .i64 ((x10).toNat : Int)) (wn rfl) rfl rfl (fun _ _ => (y_convert rfl rfl (r_u8int (a := x10) rfl (by kernel_rfl)))) ?_
    have hu15 := u8_in x10
    refine wU_val (v := .int .i64 (((x10).toNat : Int) * 256)) (wn rfl) rfl rfl (fun _ _ => (y_binop rfl rfl rfl (r_shl8 rfl (by omega) (by omega)))) ?_
    refine wU_val (v := .int .i64 (2 + (((x10).toNat : Int) * 256))) (wn rfl) rfl rfl (fun _ _ => (y_binop rfl rfl rfl (r_add (by omega) (by omega)))) ?_
    refine wU_val (v := .slice (some ⟨b8, o9, none⟩) b.length c) (wn rfl) rfl rfl (fun _ _ => (y_move rfl rfl)) ?_
    obtain ⟨x19, hx20⟩ : ∃ x, (b)[1]? = some x := ⟨_, List.getElem?_eq_getElem (by have := (St.rd 1 S3 rfl).1; rw [fm_len (sz := 1) (fun _ => rfl)] at this; omega)⟩
    refine wU_val (v := .pointer (some ⟨b8, o9 + 1 * 1, none⟩)) (wn rfl) rfl rfl (fun _ _ => (y_indexAddr rfl rfl rfl (r_indexAddr 1 Try.underlying52 inf5 (by omega) (by omega)))) ?_
    refine wU_val (v := .int .u8 ((x19).toNat : Int)) (wn rfl) rfl rfl (fun _ Sx22 => (y_load rfl rfl (r_load Try.underlying5 rfl (Rd.cl2 (i := 0) (St.rd 1 Sx22 rfl) (fm_get (enc := oneB) (sz := 1) (fun _ => rfl) hx20 rfl))))) ?_
    refine wU_val (v := .int .i64 ((x19).toNat : Int)) (wn rfl) rfl rfl (fun _ _ => (y_convert rfl rfl (r_u8int (a := x19) rfl (by kernel_rfl)))) ?_
    have hu24 := u8_in x19
    have hp25 := pay_at hx11 hx20
    have hp65 : payN b ≤ 65535 := by omega
    refine wU_val (v := .int .i64 ((2 + payN b : Nat) : Int)) (wn rfl) rfl rfl (fun _ _ => (y_binop rfl rfl rfl (by rw [show ((2 + payN b : Nat) : Int) = 2 + (((x10).toNat : Int) * 256) + ((x19).toNat : Int) by omega]; exact r_add (by omega) (by omega)))) ?_
    refine wU_val (v := .int .i64 ((2 + payN b : Nat) : Int)) (wn rfl) rfl rfl (fun _ _ => (y_assign rfl rfl)) ?_
    refine wU_nil fun w28 S29 => ?_
    clear S3
    refine wQ_sub (l' := [(0, .slice (some ⟨b8, o9, none⟩) b.length c), (2, .pointer (some ⟨b1, 0, none⟩)), (3, .int .i64 0), (12, .bool false), (4, .int .i64 ((2 + payN b : Nat) : Int))]) ⟨rfl, rfl, rfl, rfl, rfl, trivial⟩ ?_
    refine wQ_then ?_
    refine wC_seq ?_
    refine wC_seq ?_
    refine wC_region ?_
    refine wL_val (v := .slice (some ⟨b8, o9, none⟩) b.length c) (wn rfl) rfl rfl (y_move rfl rfl) ?_
    refine wL_val (v := .int .i64 ((b.length : Nat) : Int)) (wn rfl) rfl rfl (y_builtin (vs := [.slice (some ⟨b8, o9, none⟩) b.length c]) rfl ⟨rfl, trivial⟩ fun _ => r_len rfl Try.underlying52) ?_
    refine wL_val (v := .int .i64 ((2 + payN b : Nat) : Int)) (wn rfl) rfl rfl (y_move rfl rfl) ?_
    refine wL_val (v := .int .i64 (((2 + payN b) + 4 : Nat) : Int)) (wn rfl) rfl rfl (y_binop rfl rfl rfl (r_add (by omega) (by omega))) ?_
    by_cases h30 : ((b.length : Nat) : Int) < (((2 + payN b) + 4 : Nat) : Int)
    · refine wL_val (v := .bool true) (wn rfl) rfl rfl (y_binop rfl rfl rfl (r_lss_t h30)) ?_
      refine wL_nil ?_
      refine wQ_sub (l' := [(0, .slice (some ⟨b8, o9, none⟩) b.length c), (2, .pointer (some ⟨b1, 0, none⟩)), (3, .int .i64 0), (12, .bool false), (4, .int .i64 ((2 + payN b : Nat) : Int)), (29, .bool true)]) ⟨rfl, rfl, rfl, rfl, rfl, rfl, trivial⟩ ?_
      refine wQ_then ?_
      refine wC_cond_t rfl ?_
      refine wC_seq ?_
      refine wC_region ?_
      refine wL_val (v := .agg #[.int .i64 0, .int .i64 0, .int .i64 0, .int .i64 0, .int .i64 0, .int .i64 0, .int .i64 0, .int .i64 0, .int .i64 0, .int .i64 0]) (wn rfl) rfl rfl (y_build (vs := []) rfl trivial (by kernel_rfl)) ?_
      refine wL_st (cs := #[.int .i64 0, .int .i64 0, .int .i64 0, .int .i64 0, .int .i64 0, .int .i64 0, .int .i64 0, .int .i64 0, .int .i64 0, .int .i64 0]) (row' := #[.int .i64 0, .int .i64 0, .int .i64 0, .int .i64 0, .int .i64 0, .int .i64 0, .int .i64 0, .int .i64 0, .int .i64 0, .int .i64 0]) (fs' := [.blk b1 #[.int .i64 0, .int .i64 0, .int .i64 0, .int .i64 0, .int .i64 0, .int .i64 0, .int .i64 0, .int .i64 0, .int .i64 0, .int .i64 0] 51, .rd 1 (some ⟨b8, o9, none⟩) b.length ((b).flatMap oneB) ]) 0 S29 (wn rfl) rfl rfl rfl rfl rfl rfl inf51 rfl (oneAll rfl) (Nat.le_of_ble_eq_true rfl) (setAll_all rfl) rfl ?_
      intro w31 S32
      clear S29
      refine wL_val (v := .int .i64 0) (wn rfl) rfl rfl (y_assign rfl rfl) ?_
      refine wL_nil ?_
      refine wQ_sub (l' := [(0, .slice (some ⟨b8, o9, none⟩) b.length c), (2, .pointer (some ⟨b1, 0, none⟩)), (3, .int .i64 0), (12, .bool false), (4, .int .i64 ((2 + payN b : Nat) : Int)), (29, .bool true)]) ⟨rfl, rfl, rfl, rfl, rfl, rfl, trivial⟩ ?_
      refine wQ_then ?_
      refine wC_ret ?_
      refine wQ_then_ret ?_
      refine wQ_post (rs := [.cell 2 51, .tmp 3]) (vs := [.agg #[.int .i64 0, .int .i64 0, .int .i64 0, .int .i64 0, .int .i64 0, .int .i64 0, .int .i64 0, .int .i64 0, .int .i64 0, .int .i64 0], .int .i64 0]) rfl ⟨⟨_, rfl, res_row 0 S32 rfl Try.underlying51 rfl inf51⟩, rfl, trivial⟩ ?_
      exact ⟨by rw [firstM_cut (by omega) (by omega)]; rfl, S32.low⟩
    · refine wL_val (v := .bool false) (wn rfl) rfl rfl (y_binop rfl rfl rfl (r_lss_f h30)) ?_
      refine wL_nil ?_
      refine wQ_sub (l' := [(0, .slice (some ⟨b8, o9, none⟩) b.length c), (2, .pointer (some ⟨b1, 0, none⟩)), (3, .int .i64 0), (12, .bool false), (4, .int .i64 ((2 + payN b : Nat) : Int)), (29, .bool false)]) ⟨rfl, rfl, rfl, rfl, rfl, rfl, trivial⟩ ?_
      refine wQ_then ?_
      refine wC_cond_f rfl ?_
      refine wC_skip ?_
      refine wQ_then ?_
      refine wC_seq ?_
      refine wC_region ?_
      refine wL_val (v := .int .i64 0) (wn rfl) rfl rfl (y_assign rfl rfl) ?_
      refine wL_nil ?_
      refine wQ_then ?_
      refine wC_seq ?_
      refine wC_seq ?_
      refine wC_region ?_
      refine wL_val (v := .slice (some ⟨b8, o9, none⟩) b.length c) (wn rfl) rfl rfl (y_move rfl rfl) ?_
      refine wL_val (v := .int .i64 ((2 + payN b : Nat) : Int)) (wn rfl) rfl rfl (y_move rfl rfl) ?_
      refine wL_val (v := .int .i64 ((2 + payN b : Nat) : Int)) (wn rfl) rfl rfl (y_move rfl rfl) ?_
      refine wL_val (v := .int .i64 (((2 + payN b) + 4 : Nat) : Int)) (wn rfl) rfl rfl (y_binop rfl rfl rfl (r_add (by omega) (by omega))) ?_
      refine wL_val (v := .int .i64 ((2 + payN b : Nat) : Int)) (wn rfl) rfl rfl (y_move rfl rfl) ?_
      refine wL_val (v := .int .i64 (((2 + payN b) + 4 : Nat) : Int)) (wn rfl) rfl rfl (y_binop rfl rfl rfl (r_add (by omega) (by omega))) ?_
      obtain ⟨A33, hr34, hR35⟩ := bslice (b := b) (c := c) (lo := (some (.int .i64 ((2 + payN b : Nat) : Int)))) (hi := (some (.int .i64 (((2 + payN b) + 4 : Nat) : Int)))) (mx := (some (.int .i64 (((2 + payN b) + 4 : Nat) : Int)))) (l := 2 + payN b) (k := 2 + payN b + 4) (q := 2 + payN b + 4) (m := 4) (c' := 4) Try.underlying52 inf5 (sb_lhm (2 + payN b) (2 + payN b + 4) (2 + payN b + 4) rfl rfl rfl (by omega) (by omega) (by omega)) (rd_b (show Rd _ _ _ _ _ _ from S29.all 1 _ rfl)) (by omega) (by omega) (by omega) (by omega) (by omega)
      replace hR35 : Rd _ _ _ _ _ (((b.drop (2 + payN b)).take 4).flatMap oneB) := rd_f hR35
      have S36 := S29.addRd hR35
      clear S29
      refine wL_val (v := .slice A33 4 4) (wn rfl) rfl rfl (y_slice rfl rfl (evo_s rfl) (evo_s rfl) (evo_s rfl) (hr34 _)) ?_
      refine wL_val (v := .int .i64 4) (wn rfl) rfl rfl (y_builtin (vs := [.slice A33 4 4]) rfl ⟨rfl, trivial⟩ fun _ => r_len rfl Try.underlying52) ?_
      refine wL_val (v := .int .i64 0) (wn rfl) rfl rfl (y_move rfl rfl) ?_
      refine wL_nil ?_
      refine wQ_sub (l' := [(0, .slice (some ⟨b8, o9, none⟩) b.length c), (2, .pointer (some ⟨b1, 0, none⟩)), (3, .int .i64 0), (12, .bool false), (4, .int .i64 ((2 + payN b : Nat) : Int)), (29, .bool false), (5, .int .i64 0), (37, .slice A33 4 4), (38, .int .i64 4), (39, .int .i64 0)]) ⟨rfl, rfl, rfl, rfl, rfl, rfl, rfl, rfl, rfl, rfl, trivial⟩ ?_
      refine wQ_then ?_
      refine wC_block ?_
      refine wC_loop (X := Nat) (fun xv => [(0, .slice (some ⟨b8, o9, none⟩) b.length c), (2, .pointer (some ⟨b1, 0, none⟩)), (3, .int .i64 0), (12, .bool false), (4, .int .i64 ((2 + payN b : Nat) : Int)), (29, .bool false), (37, .slice A33 4 4), (38, .int .i64 4), (5, .int .i64 (numB (((b.drop (2 + payN b)).take 4).take xv))), (39, .int .i64 ((xv : Nat) : Int))]) (fun xv wr => (xv ≤ 4) ∧ St w.heap.size w wr [.rd 1 A33 4 (((b.drop (2 + payN b)).take 4).flatMap oneB), .blk b1 #[.int .i64 0, .int .i64 0, .int .i64 0, .int .i64 0, .int .i64 0, .int .i64 0, .int .i64 0, .int .i64 0, .int .i64 0, .int .i64 0] 51, .rd 1 (some ⟨b8, o9, none⟩) b.length ((b).flatMap oneB)]) (fun xv => 4 - xv) (0) ?_ ?_ ?_
      · exact ⟨Nat.zero_le _, S36⟩
      · exact ⟨rfl, rfl, rfl, rfl, rfl, rfl, rfl, rfl, rfl, rfl, trivial⟩
      · rintro k w37 ⟨hi39, S38⟩
        try dsimp only at hi39 S38
        clear S36
        refine wC_sub (l' := [(0, .slice (some ⟨b8, o9, none⟩) b.length c), (2, .pointer (some ⟨b1, 0, none⟩)), (3, .int .i64 0), (12, .bool false), (4, .int .i64 ((2 + payN b : Nat) : Int)), (29, .bool false), (37, .slice A33 4 4), (38, .int .i64 4), (5, .int .i64 (numB (((b.drop (2 + payN b)).take 4).take k))), (39, .int .i64 ((k : Nat) : Int))]) ⟨rfl, rfl, rfl, rfl, rfl, rfl, rfl, rfl, rfl, rfl, trivial⟩ ?_
        refine wC_seq ?_
        refine wC_region ?_
        by_cases h40 : ((k : Nat) : Int) < 4
        · refine wL_val (v := .bool true) (wn rfl) rfl rfl (y_binop rfl rfl rfl (r_lss_t h40)) ?_
          refine wL_nil ?_
          refine wQ_then ?_
          refine wC_seq ?_
          refine wC_cond_t rfl ?_
          refine wC_skip ?_
          refine wQ_then ?_
          refine wC_seq ?_
          refine wC_block ?_
          refine wC_seq ?_
          refine wC_region ?_
          obtain ⟨b41, o42, rfl⟩ := Rd.addr (St.rd 0 S38 rfl) (by omega)
          obtain ⟨x43, hx44⟩ : ∃ x, ((b.drop (2 + payN b)).take 4)[k]? = some x := ⟨_, List.getElem?_eq_getElem (by have := (St.rd 0 S38 rfl).1; rw [fm_len (sz := 1) (fun _ => rfl)] at this; omega)⟩
          refine wL_val (v := .pointer (some ⟨b41, o42 + k * 1, none⟩)) (wn rfl) rfl rfl (y_indexAddr rfl rfl rfl (r_indexAddr k Try.underlying52 inf5 (by omega) (by omega))) ?_
          refine wL_val (v := .int .u8 ((x43).toNat : Int)) (wn rfl) rfl rfl (y_load rfl rfl (r_load Try.underlying5 rfl (Rd.cl2 (i := 0) (St.rd 0 S38 rfl) (fm_get (enc := oneB) (sz := 1) (fun _ => rfl) hx44 rfl)))) ?_
          refine wL_val (v := .int .u8 ((x43).toNat : Int)) (wn rfl) rfl rfl (y_assign rfl rfl) ?_
          refine wL_nil ?_
          refine wQ_sub (l' := [(0, .slice (some ⟨b8, o9, none⟩) b.length c), (2, .pointer (some ⟨b1, 0, none⟩)), (3, .int .i64 0), (12, .bool false), (4, .int .i64 ((2 + payN b : Nat) : Int)), (29, .bool false), (37, .slice (some ⟨b41, o42, none⟩) 4 4), (38, .int .i64 4), (5, .int .i64 (numB (((b.drop (2 + payN b)).take 4).take k))), (39, .int .i64 ((k : Nat) : Int)), (40, .bool true), (7, .int .u8 ((x43).toNat : Int))]) ⟨rfl, rfl, rfl, rfl, rfl, rfl, rfl, rfl, rfl, rfl, rfl, rfl, trivial⟩ ?_
          refine wQ_then ?_
          refine wC_region ?_
          refine wL_val (v := .int .i64 (numB (((b.drop (2 + payN b)).take 4).take k))) (wn rfl) rfl rfl (y_move rfl rfl) ?_
          have hu45 := numB_bd (((b.drop (2 + payN b)).take 4).take k) (by simp; omega)
          refine wL_val (v := .int .i64 (numB (((b.drop (2 + payN b)).take 4).take k) * 256)) (wn rfl) rfl rfl (y_binop rfl rfl rfl (r_shl8 rfl (by omega) (by omega))) ?_
          refine wL_val (v := .int .u8 ((x43).toNat : Int)) (wn rfl) rfl rfl (y_move rfl rfl) ?_
          refine wL_val (v := .int .i64 ((x43).toNat : Int)) (wn rfl) rfl rfl (y_convert rfl rfl (r_u8int (a := x43) rfl (by kernel_rfl))) ?_
          have hu46 := u8_in x43
          refine wL_val (v := .int .i64 (numB (((b.drop (2 + payN b)).take 4).take k) * 256 + ((x43).toNat : Int))) (wn rfl) rfl rfl (y_binop rfl rfl rfl (r_or8 rfl (by omega) (by omega) (by omega) (by omega))) ?_
          refine wL_val (v := .int .i64 (numB (((b.drop (2 + payN b)).take 4).take k) * 256 + ((x43).toNat : Int))) (wn rfl) rfl rfl (y_assign rfl rfl) ?_
          refine wL_nil ?_
          refine wQ_sub (l' := [(0, .slice (some ⟨b8, o9, none⟩) b.length c), (2, .pointer (some ⟨b1, 0, none⟩)), (3, .int .i64 0), (12, .bool false), (4, .int .i64 ((2 + payN b : Nat) : Int)), (29, .bool false), (37, .slice (some ⟨b41, o42, none⟩) 4 4), (38, .int .i64 4), (5, .int .i64 (numB (((b.drop (2 + payN b)).take 4).take k) * 256 + ((x43).toNat : Int))), (39, .int .i64 ((k : Nat) : Int)), (40, .bool true), (7, .int .u8 ((x43).toNat : Int))]) ⟨rfl, rfl, rfl, rfl, rfl, rfl, rfl, rfl, rfl, rfl, rfl, rfl, trivial⟩ ?_
          refine wQ_blk_n ?_
          refine wQ_then ?_
          refine wC_region ?_
          refine wL_val (v := .int .i64 ((k + 1 : Nat) : Int)) (wn rfl) rfl rfl (y_binop rfl rfl rfl (r_add (by omega) (by omega))) ?_
          refine wL_val (v := .int .i64 ((k + 1 : Nat) : Int)) (wn rfl) rfl rfl (y_move rfl rfl) ?_
          refine wL_nil ?_
          refine wQ_sub (l' := [(0, .slice (some ⟨b8, o9, none⟩) b.length c), (2, .pointer (some ⟨b1, 0, none⟩)), (3, .int .i64 0), (12, .bool false), (4, .int .i64 ((2 + payN b : Nat) : Int)), (29, .bool false), (37, .slice (some ⟨b41, o42, none⟩) 4 4), (38, .int .i64 4), (5, .int .i64 (numB (((b.drop (2 + payN b)).take 4).take k) * 256 + ((x43).toNat : Int))), (39, .int .i64 ((k + 1 : Nat) : Int)), (40, .bool true), (7, .int .u8 ((x43).toNat : Int))]) ⟨rfl, rfl, rfl, rfl, rfl, rfl, rfl, rfl, rfl, rfl, rfl, rfl, trivial⟩ ?_
          refine wQ_round (k + 1) ?_ ⟨rfl, rfl, rfl, rfl, rfl, rfl, rfl, rfl, (px_int (numB_step hx44)), rfl, trivial⟩ (by first | omega | (dsimp only; omega))
          exact ⟨(by omega), S38⟩
        · refine wL_val (v := .bool false) (wn rfl) rfl rfl (y_binop rfl rfl rfl (r_lss_f h40)) ?_
          refine wL_nil ?_
          refine wQ_then ?_
          refine wC_seq ?_
          refine wC_cond_f rfl ?_
          refine wC_exit ?_
          refine wQ_then_exit ?_
          refine wQ_then_exit ?_
          refine wQ_blk_same ?_
          refine wQ_then ?_
          refine wC_seq ?_
          refine wC_seq ?_
          refine wC_region ?_
          refine wL_val (v := .int .i64 (numB (((b.drop (2 + payN b)).take 4).take k))) (wn rfl) rfl rfl (y_move rfl rfl) ?_
          refine wL_val (v := .slice (some ⟨b8, o9, none⟩) b.length c) (wn rfl) rfl rfl (y_move rfl rfl) ?_
          refine wL_val (v := .int .i64 ((2 + payN b : Nat) : Int)) (wn rfl) rfl rfl (y_move rfl rfl) ?_
          obtain ⟨A47, hr48, hR49⟩ := bslice (b := b) (c := c) (lo := none) (hi := (some (.int .i64 ((2 + payN b : Nat) : Int)))) (mx := none) (l := 0) (k := 2 + payN b) (q := c) (m := 2 + payN b) (c' := c) Try.underlying52 inf5 (sb_h (2 + payN b) rfl (by omega)) (rd_b (show Rd _ _ _ _ _ _ from S38.all 2 _ rfl)) (by omega) (by omega) (by omega) (by omega) (by omega)
          replace hR49 : Rd _ _ _ _ _ (byteCells (b.take (2 + payN b))) := hR49
          have S50 := S38.addRd hR49
          clear S38
          refine wL_val (v := .slice A47 (2 + payN b) c) (wn rfl) rfl rfl (y_slice rfl rfl evo_n (evo_s rfl) evo_n (hr48 _)) ?_
          refine wL_call (vs := [.slice A47 (2 + payN b) c]) (wn rfl) rfl rfl (e_call (vs := [.slice A47 (2 + payN b) c]) rfl en172 ⟨rfl, trivial⟩) (Sum_calls _ _ _ (b.take (2 + payN b)) _ (St.rd 0 S50 rfl) (by omega)) ?_
          rintro _ w51 ⟨rfl, q53, rfl⟩
          refine ⟨_, rfl, ?_⟩
          have S52 := S50.drewN q53
          clear S50
          obtain rfl : k = 4 := by omega
          by_cases h54 : numB ((b.drop (2 + payN b)).take 4) = sumM (b.take (2 + payN b))
          · refine wL_val (v := .bool false) (wn rfl) rfl rfl (y_binop rfl rfl rfl (r_neq_f (by rw [take44]; exact h54))) ?_
            refine wL_nil ?_
            refine wQ_sub (l' := [(0, .slice (some ⟨b8, o9, none⟩) b.length c), (2, .pointer (some ⟨b1, 0, none⟩)), (3, .int .i64 0), (12, .bool false), (4, .int .i64 ((2 + payN b : Nat) : Int)), (29, .bool false), (37, .slice A33 4 4), (38, .int .i64 4), (5, .int .i64 (numB (((b.drop (2 + payN b)).take 4).take 4))), (39, .int .i64 ((4 : Nat) : Int)), (40, .bool false), (54, .bool false)]) ⟨rfl, rfl, rfl, rfl, rfl, rfl, rfl, rfl, rfl, rfl, rfl, rfl, trivial⟩ ?_
            refine wQ_then ?_
            refine wC_cond_f rfl ?_
            refine wC_skip ?_
            refine wQ_then ?_
            refine wC_seq ?_
            refine wC_region ?_
            refine wL_val (v := .slice (some ⟨b8, o9, none⟩) b.length c) (wn rfl) rfl rfl (y_move rfl rfl) ?_
            refine wL_val (v := .int .i64 ((2 + payN b : Nat) : Int)) (wn rfl) rfl rfl (y_move rfl rfl) ?_
            obtain ⟨A55, hr56, hR57⟩ := bslice (b := b) (c := c) (lo := (some (.int .i64 2))) (hi := (some (.int .i64 ((2 + payN b : Nat) : Int)))) (mx := none) (l := 2) (k := 2 + payN b) (q := c) (m := payN b) (c' := c - 2) Try.underlying52 inf5 (sb_lh 2 (2 + payN b) rfl rfl (by omega) (by omega)) (rd_b (show Rd _ _ _ _ _ _ from S52.all 3 _ rfl)) (by omega) (by omega) (by omega) (by omega) (by omega)
            replace hR57 : Rd _ _ _ _ _ (byteCells ((b.drop 2).take (payN b))) := hR57
            have S58 := S52.addRd hR57
            clear S52
            refine wL_val (v := .slice A55 (payN b) (c - 2)) (wn rfl) rfl rfl (y_slice rfl rfl (evo_s rfl) (evo_s rfl) evo_n (hr56 _)) ?_
            refine wL_call (vs := [.slice A55 (payN b) (c - 2)]) (wn rfl) rfl rfl (e_call (vs := [.slice A55 (payN b) (c - 2)]) rfl en50 ⟨rfl, trivial⟩) (Decode_calls A55 (payN b) (c - 2) ((b.drop 2).take (payN b)) _ (St.rd 0 S58 rfl) (by omega) (by unfold maxLen; omega)) ?_
            rintro _ w59 ⟨rfl, hb61⟩
            refine ⟨_, rfl, ?_⟩
            have S60 := S58.on hb61
            clear hb61 S58
            refine wL_val (v := .tuple #[.agg #[.int .i64 ((decM ((b.drop 2).take (payN b))).1.kind), .int .i64 ((decM ((b.drop 2).take (payN b))).1.queue), .int .i64 ((decM ((b.drop 2).take (payN b))).1.epoch), .int .i64 ((decM ((b.drop 2).take (payN b))).1.peer), .int .i64 ((decM ((b.drop 2).take (payN b))).1.ev.kind), .int .i64 ((decM ((b.drop 2).take (payN b))).1.ev.producer), .int .i64 ((decM ((b.drop 2).take (payN b))).1.ev.id), .int .i64 ((decM ((b.drop 2).take (payN b))).1.ev.body), .int .i64 ((decM ((b.drop 2).take (payN b))).1.ev.hepoch), .int .i64 ((decM ((b.drop 2).take (payN b))).1.ev.hno)], .int .i64 ((decM ((b.drop 2).take (payN b))).2)]) (wn rfl) rfl rfl (y_move rfl rfl) ?_
            refine wL_val (v := .agg #[.int .i64 ((decM ((b.drop 2).take (payN b))).1.kind), .int .i64 ((decM ((b.drop 2).take (payN b))).1.queue), .int .i64 ((decM ((b.drop 2).take (payN b))).1.epoch), .int .i64 ((decM ((b.drop 2).take (payN b))).1.peer), .int .i64 ((decM ((b.drop 2).take (payN b))).1.ev.kind), .int .i64 ((decM ((b.drop 2).take (payN b))).1.ev.producer), .int .i64 ((decM ((b.drop 2).take (payN b))).1.ev.id), .int .i64 ((decM ((b.drop 2).take (payN b))).1.ev.body), .int .i64 ((decM ((b.drop 2).take (payN b))).1.ev.hepoch), .int .i64 ((decM ((b.drop 2).take (payN b))).1.ev.hno)]) (wn rfl) rfl rfl (y_extract rfl rfl rfl) ?_
            refine wL_val (v := .int .i64 ((decM ((b.drop 2).take (payN b))).2)) (wn rfl) rfl rfl (y_extract rfl rfl rfl) ?_
            refine wL_new (V := fun b => .pointer (some ⟨b, 0, none⟩)) (row := #[.int .i64 0, .int .i64 0, .int .i64 0, .int .i64 0, .int .i64 0, .int .i64 0, .int .i64 0, .int .i64 0, .int .i64 0, .int .i64 0]) (t := 51) S60 (wn rfl) rfl rfl (d_alloc rfl (Try.zeroValue51 _) rfl) ?_
            intro b62 w63 S64
            clear S60
            refine wL_st (cs := #[.int .i64 ((decM ((b.drop 2).take (payN b))).1.kind), .int .i64 ((decM ((b.drop 2).take (payN b))).1.queue), .int .i64 ((decM ((b.drop 2).take (payN b))).1.epoch), .int .i64 ((decM ((b.drop 2).take (payN b))).1.peer), .int .i64 ((decM ((b.drop 2).take (payN b))).1.ev.kind), .int .i64 ((decM ((b.drop 2).take (payN b))).1.ev.producer), .int .i64 ((decM ((b.drop 2).take (payN b))).1.ev.id), .int .i64 ((decM ((b.drop 2).take (payN b))).1.ev.body), .int .i64 ((decM ((b.drop 2).take (payN b))).1.ev.hepoch), .int .i64 ((decM ((b.drop 2).take (payN b))).1.ev.hno)]) (row' := #[.int .i64 ((decM ((b.drop 2).take (payN b))).1.kind), .int .i64 ((decM ((b.drop 2).take (payN b))).1.queue), .int .i64 ((decM ((b.drop 2).take (payN b))).1.epoch), .int .i64 ((decM ((b.drop 2).take (payN b))).1.peer), .int .i64 ((decM ((b.drop 2).take (payN b))).1.ev.kind), .int .i64 ((decM ((b.drop 2).take (payN b))).1.ev.producer), .int .i64 ((decM ((b.drop 2).take (payN b))).1.ev.id), .int .i64 ((decM ((b.drop 2).take (payN b))).1.ev.body), .int .i64 ((decM ((b.drop 2).take (payN b))).1.ev.hepoch), .int .i64 ((decM ((b.drop 2).take (payN b))).1.ev.hno)]) (fs' := [.blk b62 #[.int .i64 ((decM ((b.drop 2).take (payN b))).1.kind), .int .i64 ((decM ((b.drop 2).take (payN b))).1.queue), .int .i64 ((decM ((b.drop 2).take (payN b))).1.epoch), .int .i64 ((decM ((b.drop 2).take (payN b))).1.peer), .int .i64 ((decM ((b.drop 2).take (payN b))).1.ev.kind), .int .i64 ((decM ((b.drop 2).take (payN b))).1.ev.producer), .int .i64 ((decM ((b.drop 2).take (payN b))).1.ev.id), .int .i64 ((decM ((b.drop 2).take (payN b))).1.ev.body), .int .i64 ((decM ((b.drop 2).take (payN b))).1.ev.hepoch), .int .i64 ((decM ((b.drop 2).take (payN b))).1.ev.hno)] 51, .rd 1 A55 (payN b) (byteCells ((b.drop 2).take (payN b))), .rd 1 A47 (2 + payN b) (byteCells (b.take (2 + payN b))), .rd 1 A33 4 (((b.drop (2 + payN b)).take 4).flatMap oneB), .blk b1 #[.int .i64 0, .int .i64 0, .int .i64 0, .int .i64 0, .int .i64 0, .int .i64 0, .int .i64 0, .int .i64 0, .int .i64 0, .int .i64 0] 51, .rd 1 (some ⟨b8, o9, none⟩) b.length ((b).flatMap oneB) ]) 0 S64 (wn rfl) rfl rfl rfl rfl rfl rfl inf51 rfl (oneAll rfl) (Nat.le_of_ble_eq_true rfl) (setAll_all rfl) rfl ?_
            intro w65 S66
            clear S64
            refine wL_val (v := .int .i64 ((decM ((b.drop 2).take (payN b))).2)) (wn rfl) rfl rfl (y_assign rfl rfl) ?_
            refine wL_nil ?_
            refine wQ_sub (l' := [(0, .slice (some ⟨b8, o9, none⟩) b.length c), (2, .pointer (some ⟨b1, 0, none⟩)), (3, .int .i64 0), (12, .bool false), (4, .int .i64 ((2 + payN b : Nat) : Int)), (29, .bool false), (37, .slice A33 4 4), (38, .int .i64 4), (5, .int .i64 (numB (((b.drop (2 + payN b)).take 4).take 4))), (39, .int .i64 ((4 : Nat) : Int)), (40, .bool false), (54, .bool false), (8, .pointer (some ⟨b62, 0, none⟩)), (9, .int .i64 ((decM ((b.drop 2).take (payN b))).2))]) ⟨rfl, rfl, rfl, rfl, rfl, rfl, rfl, rfl, rfl, rfl, rfl, rfl, rfl, rfl, trivial⟩ ?_
            refine wQ_then ?_
            refine wC_seq ?_
            refine wC_seq ?_
            refine wC_region ?_
            refine wL_val (v := .int .i64 ((decM ((b.drop 2).take (payN b))).2)) (wn rfl) rfl rfl (y_move rfl rfl) ?_
            by_cases h67 : (decM ((b.drop 2).take (payN b))).2 = 0
            · refine wL_val (v := .bool false) (wn rfl) rfl rfl (y_binop rfl rfl rfl (r_neq_f h67)) ?_
              refine wL_nil ?_
              refine wQ_sub (l' := [(0, .slice (some ⟨b8, o9, none⟩) b.length c), (2, .pointer (some ⟨b1, 0, none⟩)), (3, .int .i64 0), (12, .bool false), (4, .int .i64 ((2 + payN b : Nat) : Int)), (29, .bool false), (37, .slice A33 4 4), (38, .int .i64 4), (5, .int .i64 (numB (((b.drop (2 + payN b)).take 4).take 4))), (39, .int .i64 ((4 : Nat) : Int)), (40, .bool false), (54, .bool false), (8, .pointer (some ⟨b62, 0, none⟩)), (9, .int .i64 ((decM ((b.drop 2).take (payN b))).2)), (64, .bool false)]) ⟨rfl, rfl, rfl, rfl, rfl, rfl, rfl, rfl, rfl, rfl, rfl, rfl, rfl, rfl, rfl, trivial⟩ ?_
              refine wQ_then ?_
              refine wC_cond_f rfl ?_
              refine wC_skip ?_
              refine wQ_then ?_
              refine wC_seq ?_
              refine wC_region ?_
              refine wL_val (v := .agg #[.int .i64 ((decM ((b.drop 2).take (payN b))).1.kind), .int .i64 ((decM ((b.drop 2).take (payN b))).1.queue), .int .i64 ((decM ((b.drop 2).take (payN b))).1.epoch), .int .i64 ((decM ((b.drop 2).take (payN b))).1.peer), .int .i64 ((decM ((b.drop 2).take (payN b))).1.ev.kind), .int .i64 ((decM ((b.drop 2).take (payN b))).1.ev.producer), .int .i64 ((decM ((b.drop 2).take (payN b))).1.ev.id), .int .i64 ((decM ((b.drop 2).take (payN b))).1.ev.body), .int .i64 ((decM ((b.drop 2).take (payN b))).1.ev.hepoch), .int .i64 ((decM ((b.drop 2).take (payN b))).1.ev.hno)]) (wn rfl) rfl rfl (y_load rfl rfl (r_load_row 0 S66 rfl Try.underlying51 rfl inf51 rfl)) ?_
              refine wL_val (v := .int .i64 ((2 + payN b : Nat) : Int)) (wn rfl) rfl rfl (y_move rfl rfl) ?_
              refine wL_val (v := .int .i64 (((2 + payN b) + 4 : Nat) : Int)) (wn rfl) rfl rfl (y_binop rfl rfl rfl (r_add (by omega) (by omega))) ?_
              refine wL_st (cs := #[.int .i64 ((decM ((b.drop 2).take (payN b))).1.kind), .int .i64 ((decM ((b.drop 2).take (payN b))).1.queue), .int .i64 ((decM ((b.drop 2).take (payN b))).1.epoch), .int .i64 ((decM ((b.drop 2).take (payN b))).1.peer), .int .i64 ((decM ((b.drop 2).take (payN b))).1.ev.kind), .int .i64 ((decM ((b.drop 2).take (payN b))).1.ev.producer), .int .i64 ((decM ((b.drop 2).take (payN b))).1.ev.id), .int .i64 ((decM ((b.drop 2).take (payN b))).1.ev.body), .int .i64 ((decM ((b.drop 2).take (payN b))).1.ev.hepoch), .int .i64 ((decM ((b.drop 2).take (payN b))).1.ev.hno)]) (row' := #[.int .i64 ((decM ((b.drop 2).take (payN b))).1.kind), .int .i64 ((decM ((b.drop 2).take (payN b))).1.queue), .int .i64 ((decM ((b.drop 2).take (payN b))).1.epoch), .int .i64 ((decM ((b.drop 2).take (payN b))).1.peer), .int .i64 ((decM ((b.drop 2).take (payN b))).1.ev.kind), .int .i64 ((decM ((b.drop 2).take (payN b))).1.ev.producer), .int .i64 ((decM ((b.drop 2).take (payN b))).1.ev.id), .int .i64 ((decM ((b.drop 2).take (payN b))).1.ev.body), .int .i64 ((decM ((b.drop 2).take (payN b))).1.ev.hepoch), .int .i64 ((decM ((b.drop 2).take (payN b))).1.ev.hno)]) (fs' := [.blk b62 #[.int .i64 ((decM ((b.drop 2).take (payN b))).1.kind), .int .i64 ((decM ((b.drop 2).take (payN b))).1.queue), .int .i64 ((decM ((b.drop 2).take (payN b))).1.epoch), .int .i64 ((decM ((b.drop 2).take (payN b))).1.peer), .int .i64 ((decM ((b.drop 2).take (payN b))).1.ev.kind), .int .i64 ((decM ((b.drop 2).take (payN b))).1.ev.producer), .int .i64 ((decM ((b.drop 2).take (payN b))).1.ev.id), .int .i64 ((decM ((b.drop 2).take (payN b))).1.ev.body), .int .i64 ((decM ((b.drop 2).take (payN b))).1.ev.hepoch), .int .i64 ((decM ((b.drop 2).take (payN b))).1.ev.hno)] 51, .rd 1 A55 (payN b) (byteCells ((b.drop 2).take (payN b))), .rd 1 A47 (2 + payN b) (byteCells (b.take (2 + payN b))), .rd 1 A33 4 (((b.drop (2 + payN b)).take 4).flatMap oneB), .blk b1 #[.int .i64 ((decM ((b.drop 2).take (payN b))).1.kind), .int .i64 ((decM ((b.drop 2).take (payN b))).1.queue), .int .i64 ((decM ((b.drop 2).take (payN b))).1.epoch), .int .i64 ((decM ((b.drop 2).take (payN b))).1.peer), .int .i64 ((decM ((b.drop 2).take (payN b))).1.ev.kind), .int .i64 ((decM ((b.drop 2).take (payN b))).1.ev.producer), .int .i64 ((decM ((b.drop 2).take (payN b))).1.ev.id), .int .i64 ((decM ((b.drop 2).take (payN b))).1.ev.body), .int .i64 ((decM ((b.drop 2).take (payN b))).1.ev.hepoch), .int .i64 ((decM ((b.drop 2).take (payN b))).1.ev.hno)] 51, .rd 1 (some ⟨b8, o9, none⟩) b.length ((b).flatMap oneB) ]) 4 S66 (wn rfl) rfl rfl rfl rfl rfl rfl inf51 rfl (oneAll rfl) (Nat.le_of_ble_eq_true rfl) (setAll_all rfl) rfl ?_
              intro w68 S69
              clear S66
              refine wL_val (v := .int .i64 (((2 + payN b) + 4 : Nat) : Int)) (wn rfl) rfl rfl (y_assign rfl rfl) ?_
              refine wL_nil ?_
              refine wQ_sub (l' := [(0, .slice (some ⟨b8, o9, none⟩) b.length c), (2, .pointer (some ⟨b1, 0, none⟩)), (3, .int .i64 (((2 + payN b) + 4 : Nat) : Int)), (12, .bool false), (4, .int .i64 ((2 + payN b : Nat) : Int)), (29, .bool false), (37, .slice A33 4 4), (38, .int .i64 4), (5, .int .i64 (numB (((b.drop (2 + payN b)).take 4).take 4))), (39, .int .i64 ((4 : Nat) : Int)), (40, .bool false), (54, .bool false), (8, .pointer (some ⟨b62, 0, none⟩)), (9, .int .i64 ((decM ((b.drop 2).take (payN b))).2)), (64, .bool false)]) ⟨rfl, rfl, rfl, rfl, rfl, rfl, rfl, rfl, rfl, rfl, rfl, rfl, rfl, rfl, rfl, trivial⟩ ?_
              refine wQ_then ?_
              refine wC_ret ?_
              refine wQ_post (rs := [.cell 2 51, .tmp 3]) (vs := [.agg #[.int .i64 ((decM ((b.drop 2).take (payN b))).1.kind), .int .i64 ((decM ((b.drop 2).take (payN b))).1.queue), .int .i64 ((decM ((b.drop 2).take (payN b))).1.epoch), .int .i64 ((decM ((b.drop 2).take (payN b))).1.peer), .int .i64 ((decM ((b.drop 2).take (payN b))).1.ev.kind), .int .i64 ((decM ((b.drop 2).take (payN b))).1.ev.producer), .int .i64 ((decM ((b.drop 2).take (payN b))).1.ev.id), .int .i64 ((decM ((b.drop 2).take (payN b))).1.ev.body), .int .i64 ((decM ((b.drop 2).take (payN b))).1.ev.hepoch), .int .i64 ((decM ((b.drop 2).take (payN b))).1.ev.hno)], .int .i64 (((2 + payN b) + 4 : Nat) : Int)]) rfl ⟨⟨_, rfl, res_row 4 S69 rfl Try.underlying51 rfl inf51⟩, rfl, trivial⟩ ?_
              exact ⟨by rw [firstM_ok (by omega) (by omega) h54 h67]; exact congrArg Ending.returned (by show Value.tuple #[_, .int .i64 _] = Value.tuple #[_, .int .i64 _]; rw [show ((2 + payN b + 4 : Nat) : Int) = ((payN b + 6 : Nat) : Int) by omega]; rfl), S69.low⟩
            · refine wL_val (v := .bool true) (wn rfl) rfl rfl (y_binop rfl rfl rfl (r_neq_t h67)) ?_
              refine wL_nil ?_
              refine wQ_sub (l' := [(0, .slice (some ⟨b8, o9, none⟩) b.length c), (2, .pointer (some ⟨b1, 0, none⟩)), (3, .int .i64 0), (12, .bool false), (4, .int .i64 ((2 + payN b : Nat) : Int)), (29, .bool false), (37, .slice A33 4 4), (38, .int .i64 4), (5, .int .i64 (numB (((b.drop (2 + payN b)).take 4).take 4))), (39, .int .i64 ((4 : Nat) : Int)), (40, .bool false), (54, .bool false), (8, .pointer (some ⟨b62, 0, none⟩)), (9, .int .i64 ((decM ((b.drop 2).take (payN b))).2)), (64, .bool true)]) ⟨rfl, rfl, rfl, rfl, rfl, rfl, rfl, rfl, rfl, rfl, rfl, rfl, rfl, rfl, rfl, trivial⟩ ?_
              refine wQ_then ?_
              refine wC_cond_t rfl ?_
              refine wC_seq ?_
              refine wC_region ?_
              refine wL_val (v := .agg #[.int .i64 0, .int .i64 0, .int .i64 0, .int .i64 0, .int .i64 0, .int .i64 0, .int .i64 0, .int .i64 0, .int .i64 0, .int .i64 0]) (wn rfl) rfl rfl (y_build (vs := []) rfl trivial (by kernel_rfl)) ?_
              refine wL_st (cs := #[.int .i64 0, .int .i64 0, .int .i64 0, .int .i64 0, .int .i64 0, .int .i64 0, .int .i64 0, .int .i64 0, .int .i64 0, .int .i64 0]) (row' := #[.int .i64 0, .int .i64 0, .int .i64 0, .int .i64 0, .int .i64 0, .int .i64 0, .int .i64 0, .int .i64 0, .int .i64 0, .int .i64 0]) (fs' := [.blk b62 #[.int .i64 ((decM ((b.drop 2).take (payN b))).1.kind), .int .i64 ((decM ((b.drop 2).take (payN b))).1.queue), .int .i64 ((decM ((b.drop 2).take (payN b))).1.epoch), .int .i64 ((decM ((b.drop 2).take (payN b))).1.peer), .int .i64 ((decM ((b.drop 2).take (payN b))).1.ev.kind), .int .i64 ((decM ((b.drop 2).take (payN b))).1.ev.producer), .int .i64 ((decM ((b.drop 2).take (payN b))).1.ev.id), .int .i64 ((decM ((b.drop 2).take (payN b))).1.ev.body), .int .i64 ((decM ((b.drop 2).take (payN b))).1.ev.hepoch), .int .i64 ((decM ((b.drop 2).take (payN b))).1.ev.hno)] 51, .rd 1 A55 (payN b) (byteCells ((b.drop 2).take (payN b))), .rd 1 A47 (2 + payN b) (byteCells (b.take (2 + payN b))), .rd 1 A33 4 (((b.drop (2 + payN b)).take 4).flatMap oneB), .blk b1 #[.int .i64 0, .int .i64 0, .int .i64 0, .int .i64 0, .int .i64 0, .int .i64 0, .int .i64 0, .int .i64 0, .int .i64 0, .int .i64 0] 51, .rd 1 (some ⟨b8, o9, none⟩) b.length ((b).flatMap oneB) ]) 4 S66 (wn rfl) rfl rfl rfl rfl rfl rfl inf51 rfl (oneAll rfl) (Nat.le_of_ble_eq_true rfl) (setAll_all rfl) rfl ?_
              intro w70 S71
              clear S66
              refine wL_val (v := .int .i64 0) (wn rfl) rfl rfl (y_assign rfl rfl) ?_
              refine wL_nil ?_
              refine wQ_sub (l' := [(0, .slice (some ⟨b8, o9, none⟩) b.length c), (2, .pointer (some ⟨b1, 0, none⟩)), (3, .int .i64 0), (12, .bool false), (4, .int .i64 ((2 + payN b : Nat) : Int)), (29, .bool false), (37, .slice A33 4 4), (38, .int .i64 4), (5, .int .i64 (numB (((b.drop (2 + payN b)).take 4).take 4))), (39, .int .i64 ((4 : Nat) : Int)), (40, .bool false), (54, .bool false), (8, .pointer (some ⟨b62, 0, none⟩)), (9, .int .i64 ((decM ((b.drop 2).take (payN b))).2)), (64, .bool true)]) ⟨rfl, rfl, rfl, rfl, rfl, rfl, rfl, rfl, rfl, rfl, rfl, rfl, rfl, rfl, rfl, trivial⟩ ?_
              refine wQ_then ?_
              refine wC_ret ?_
              refine wQ_then_ret ?_
              refine wQ_post (rs := [.cell 2 51, .tmp 3]) (vs := [.agg #[.int .i64 0, .int .i64 0, .int .i64 0, .int .i64 0, .int .i64 0, .int .i64 0, .int .i64 0, .int .i64 0, .int .i64 0, .int .i64 0], .int .i64 0]) rfl ⟨⟨_, rfl, res_row 4 S71 rfl Try.underlying51 rfl inf51⟩, rfl, trivial⟩ ?_
              exact ⟨by rw [firstM_dec (by omega) (by omega) h54 h67]; rfl, S71.low⟩
          · refine wL_val (v := .bool true) (wn rfl) rfl rfl (y_binop rfl rfl rfl (r_neq_t (by rw [take44]; exact h54))) ?_
            refine wL_nil ?_
            refine wQ_sub (l' := [(0, .slice (some ⟨b8, o9, none⟩) b.length c), (2, .pointer (some ⟨b1, 0, none⟩)), (3, .int .i64 0), (12, .bool false), (4, .int .i64 ((2 + payN b : Nat) : Int)), (29, .bool false), (37, .slice A33 4 4), (38, .int .i64 4), (5, .int .i64 (numB (((b.drop (2 + payN b)).take 4).take 4))), (39, .int .i64 ((4 : Nat) : Int)), (40, .bool false), (54, .bool true)]) ⟨rfl, rfl, rfl, rfl, rfl, rfl, rfl, rfl, rfl, rfl, rfl, rfl, trivial⟩ ?_
            refine wQ_then ?_
            refine wC_cond_t rfl ?_
            refine wC_seq ?_
            refine wC_region ?_
            refine wL_val (v := .agg #[.int .i64 0, .int .i64 0, .int .i64 0, .int .i64 0, .int .i64 0, .int .i64 0, .int .i64 0, .int .i64 0, .int .i64 0, .int .i64 0]) (wn rfl) rfl rfl (y_build (vs := []) rfl trivial (by kernel_rfl)) ?_
            refine wL_st (cs := #[.int .i64 0, .int .i64 0, .int .i64 0, .int .i64 0, .int .i64 0, .int .i64 0, .int .i64 0, .int .i64 0, .int .i64 0, .int .i64 0]) (row' := #[.int .i64 0, .int .i64 0, .int .i64 0, .int .i64 0, .int .i64 0, .int .i64 0, .int .i64 0, .int .i64 0, .int .i64 0, .int .i64 0]) (fs' := [.rd 1 A47 (2 + payN b) (byteCells (b.take (2 + payN b))), .rd 1 A33 4 (((b.drop (2 + payN b)).take 4).flatMap oneB), .blk b1 #[.int .i64 0, .int .i64 0, .int .i64 0, .int .i64 0, .int .i64 0, .int .i64 0, .int .i64 0, .int .i64 0, .int .i64 0, .int .i64 0] 51, .rd 1 (some ⟨b8, o9, none⟩) b.length ((b).flatMap oneB) ]) 2 S52 (wn rfl) rfl rfl rfl rfl rfl rfl inf51 rfl (oneAll rfl) (Nat.le_of_ble_eq_true rfl) (setAll_all rfl) rfl ?_
            intro w72 S73
            clear S52
            refine wL_val (v := .int .i64 0) (wn rfl) rfl rfl (y_assign rfl rfl) ?_
            refine wL_nil ?_
            refine wQ_sub (l' := [(0, .slice (some ⟨b8, o9, none⟩) b.length c), (2, .pointer (some ⟨b1, 0, none⟩)), (3, .int .i64 0), (12, .bool false), (4, .int .i64 ((2 + payN b : Nat) : Int)), (29, .bool false), (37, .slice A33 4 4), (38, .int .i64 4), (5, .int .i64 (numB (((b.drop (2 + payN b)).take 4).take 4))), (39, .int .i64 ((4 : Nat) : Int)), (40, .bool false), (54, .bool true)]) ⟨rfl, rfl, rfl, rfl, rfl, rfl, rfl, rfl, rfl, rfl, rfl, rfl, trivial⟩ ?_
            refine wQ_then ?_
            refine wC_ret ?_
            refine wQ_then_ret ?_
            refine wQ_post (rs := [.cell 2 51, .tmp 3]) (vs := [.agg #[.int .i64 0, .int .i64 0, .int .i64 0, .int .i64 0, .int .i64 0, .int .i64 0, .int .i64 0, .int .i64 0, .int .i64 0, .int .i64 0], .int .i64 0]) rfl ⟨⟨_, rfl, res_row 2 S73 rfl Try.underlying51 rfl inf51⟩, rfl, trivial⟩ ?_
            exact ⟨by rw [firstM_sum (by omega) (by omega) h54]; rfl, S73.low⟩
end Go.Proofs.Ytkjlafpafmihaaa
