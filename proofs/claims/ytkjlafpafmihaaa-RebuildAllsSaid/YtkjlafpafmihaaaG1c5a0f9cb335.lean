/- Parts of proofs: lemmas on memory, on single functions and on the plain models; no condition of their own. -/
import Derived.Test.YtkjlafpafmihaaaRows
import Derived.WalkKit
import Derived.ProofKit
import Derived.OpenShut
import Derived.SizedLaws
import Derived.WalkSpells
import Derived.WalkLawsBesides
import Derived.Handy
import Derived.Deep.QuietTactic
import Derived.BigQuiet
import Derived.Lib.Hide
import Derived.Maps.AppendAt
import Derived.Deep.AppendLies
import Derived.RegionTactic
import Derived.OwnWalk
import Derived.Laws.Tables
import Derived.Deep.MidRow
import Derived.StillTailTactics
import Derived.OrdersHeld
import Derived.Deep.RegionHeld3
import Derived.Laws.IdiomCopy
import Derived.ChangeKeysEq
import Derived.Laws.BitsAllLaws
import Derived.Deep.DeepCutAuto
import Derived.Deep.CutRange
import Derived.Lib.SliceRun
import Derived.Deep.RegionLaw
import Derived.Test.YtkjlafpafmihaaaG411632d36699
import Derived.Test.YtkjlafpafmihaaaG48f6c12ab48d
import Derived.Test.YtkjlafpafmihaaaG497b255c2441
import Derived.Test.YtkjlafpafmihaaaG4e172fb27d17
import Derived.Test.YtkjlafpafmihaaaG4eaabf97d977
import Derived.Test.YtkjlafpafmihaaaG570539d87647
import Derived.Test.YtkjlafpafmihaaaG7ff4c8feaa3c
import Derived.Test.YtkjlafpafmihaaaG809794e4b789
import Derived.Test.YtkjlafpafmihaaaG924ec51911fe
import Derived.Test.YtkjlafpafmihaaaGc8683f30ddc5
import Derived.Test.YtkjlafpafmihaaaGfa570c25a005
import Derived.Test.YtkjlafpafmihaaaGfc91e47e3901
set_option linter.unusedVariables false
set_option linter.unusedSimpArgs false

namespace Go.Proofs.Ytkjlafpafmihaaa
open Go.ChangeShapes Go.WideShapes Go.RowKit

theorem hnd_flat : flat Try.prog 30 35 = some [.at_ (.int .i64), .at_ (.int .i64)] := by kernel_rfl
theorem hnd_eqOk : eqOk Try.prog 30 35 = true := by kernel_rfl
theorem hnd_mkV (xs : List Value) : mkV Try.prog 35 xs = .agg xs.toArray := by
  unfold mkV
  rw [Try.underlying35]
theorem run_eql_hnd (a b c d : Int) (w : World) : (binOp .eql 35 (.agg #[.int .i64 a, .int .i64 b]) (.agg #[.int .i64 c, .int .i64 d])).run Try.prog w = .ok (.bool (a == c && b == d)) w := by
  have h := run_eql_cells (P := Try.prog) w hnd_flat hnd_eqOk hnd_mkV (xs := [.int .i64 a, .int .i64 b]) (ys := [.int .i64 c, .int .i64 d]) ⟨⟨_, rfl⟩, ⟨_, rfl⟩, trivial⟩ ⟨⟨_, rfl⟩, ⟨_, rfl⟩, trivial⟩
  rw [show cellsEq [.int .i64 a, .int .i64 b] [.int .i64 c, .int .i64 d] = (a == c && b == d) by simp [cellsEq, cellEq]] at h
  exact h
def hmat (he hn : Int) (x : Ls) : Bool := x.hep == he && x.hno == hn
def idxLs (he hn : Int) (ls : List Ls) : Int := match ls.findIdx? (hmat he hn) with
  | some k => (k : Int)
  | none => -1
theorem idxLs_none {he hn : Int} {ls : List Ls} (h : ∀ (j : Nat) (y : Ls), j < ls.length → ls[j]? = some y → hmat he hn y = false) : idxLs he hn ls = -1 := by
  unfold idxLs
  rw [List.findIdx?_eq_none_iff.2 (fun y hy => by obtain ⟨j, hj, e⟩ := List.getElem_of_mem hy; exact h j y hj (by rw [List.getElem?_eq_getElem hj, e]))]
theorem idxLs_at {he hn : Int} {ls : List Ls} {k : Nat} {x : Ls} (h : ∀ (j : Nat) (y : Ls), j < k → ls[j]? = some y → hmat he hn y = false) (hx : ls[k]? = some x) (hm : hmat he hn x = true) : idxLs he hn ls = k := by
  unfold idxLs
  obtain ⟨hk, e⟩ := List.getElem?_eq_some_iff.1 hx
  rw [List.findIdx?_eq_some_iff_getElem.2 ⟨hk, by rw [e]; exact hm, fun j hj => by rw [h j _ hj (List.getElem?_eq_getElem (by omega))]; simp⟩]
theorem filt_none {hn : Int} {ls : List Ls} (h : ∀ x ∈ ls, ¬ x.hno = hn) : (ls.filter fun x => decide (x.hno ≠ hn)) = ls := List.filter_eq_self.2 fun x hx => by simpa using h x hx
theorem filt_one {hn : Int} {ls : List Ls} {k : Nat} {x : Ls} (hx : ls[k]? = some x) (hm : x.hno = hn) (hu : ∀ (i j : Nat) (a b : Ls), ls[i]? = some a → ls[j]? = some b → a.hno = b.hno → i = j) : (ls.filter fun x => decide (x.hno ≠ hn)) = ls.eraseIdx k := by
  obtain ⟨hk, e⟩ := List.getElem?_eq_some_iff.1 hx
  have e1 : ls = ls.take k ++ x :: ls.drop (k + 1) := by rw [← e, ← List.drop_eq_getElem_cons hk, List.take_append_drop]
  rw [List.eraseIdx_eq_take_drop_succ]
  conv => lhs; rw [e1]
  rw [List.filter_append, List.filter_cons, if_neg (by simp [hm])]
  congr 1
  · refine filt_none fun y hy hyn => ?_
    obtain ⟨j, hj, e2⟩ := List.getElem_of_mem hy
    rw [List.length_take] at hj
    have := hu j k y x (by rw [List.getElem_take] at e2; rw [← e2]; exact List.getElem?_eq_getElem (by omega)) hx (by rw [hyn, hm])
    omega
  · refine filt_none fun y hy hyn => ?_
    obtain ⟨j, hj, e2⟩ := List.getElem_of_mem hy
    rw [List.length_drop] at hj
    have := hu (k + 1 + j) k y x (by rw [List.getElem_drop] at e2; rw [← e2]; exact List.getElem?_eq_getElem (by omega)) hx (by rw [hyn, hm])
    omega

set_option maxRecDepth 100000 in
set_option maxHeartbeats 1000000 in
theorem AckC_calls (x : Ls) (b : Nat) (he hn : Int) (w : World) (h : Rd w w.heap.size 2 (some ⟨b, 4, none⟩) 1 [.int .i64 he, .int .i64 hn]) :
    Calls Try.prog 176 #[.agg #[.int .i64 x.hep, .int .i64 x.hno, .int .i64 x.msg.no, .int .i64 x.msg.body], .pointer (some ⟨b, 0, none⟩)] w (BoolB w (x.hep == he && x.hno == hn)) := by
 have S := (St.start w).addRd h
 refine calls_of_wC (N := 9) (vs := [.agg #[.int .i64 x.hep, .int .i64 x.hno, .int .i64 x.msg.no, .int .i64 x.msg.body], .pointer (some ⟨b, 0, none⟩)]) Try.func176 rfl rfl rfl ?_
 refine cw [0, 1] ?_
 refine x_sr (nb (row := #[.int .i64 x.hep, .int .i64 x.hno, .int .i64 x.msg.no, .int .i64 x.msg.body]) S ?_); intro b1 w2 S3; clear S
 refine va ?_
 refine qk [1, 2, 3] ?_
 refine x_tsr (vv (yfa 0 fa141_0) ?_)
 refine vv (y_load rfl rfl (r_load_agg (cs := [.int .i64 x.hep, .int .i64 x.hno]) Try.underlying35 rfl inf35 rfl (St.rg 0 S3 rfl (sub_row (x := 0) (m := 2) rfl)))) ?_
 refine vv (yfa 4 fa37_4) ?_
 refine vv (v := .agg #[.int .i64 he, .int .i64 hn]) (y_load rfl rfl (r_load_agg (cs := [.int .i64 he, .int .i64 hn]) Try.underlying35 rfl inf35 rfl (Rd.rg2 (off := 4) (j := 0) (St.rd 1 S3 rfl) (fun i u h => by rw [Nat.zero_add]; exact h)))) ?_
 refine vv (v := .bool (x.hep == he && x.hno == hn)) (y_binop rfl rfl rfl (r_eqg (by kernel_rfl) (run_eql_hnd x.hep x.hno he hn _))) ?_
 refine va ?_
 refine qk [3] ?_
 refine x_te (pt ?_)
 exact ⟨rfl, S3.low⟩

set_option maxRecDepth 100000 in
set_option maxHeartbeats 2000000 in
theorem IdxLs_calls (A : Option Addr) (c b : Nat) (he hn : Int) (ls : List Ls) (w : World) (h : Rd w w.heap.size 4 A ls.length (ls.flatMap Ls.cells)) (h2 : Rd w w.heap.size 2 (some ⟨b, 4, none⟩) 1 [.int .i64 he, .int .i64 hn]) (hl : ls.length ≤ 500) :
    Calls Try.prog 175 #[.slice A ls.length c, .func (.func 176) #[] #[.pointer (some ⟨b, 0, none⟩)]] w (IPost w (idxLs he hn ls)) := by
 have S := ((St.start w).addRd h).addRd h2
 refine calls_of_wC (N := 19) (vs := [.slice A ls.length c, .func (.func 176) #[] #[.pointer (some ⟨b, 0, none⟩)]]) Try.func175 rfl rfl rfl ?_
 refine cw [0, 1] ?_
 refine x_sr (va ?_)
 refine wL_nil (wQ_then (wC_seq (wC_seq (wC_region (vm ?_)))))
 refine vv (v := .int .i64 ((ls.length : Nat) : Int)) (y_builtin (vs := [.slice A ls.length c]) rfl ⟨rfl, trivial⟩ fun _ => r_len rfl Try.underlying23) ?_
 refine vm ?_
 refine qk [0, 1, 4, 7, 8] ?_
 refine wQ_then (wC_block (wC_loop (X := Nat) (fun xv => [(0, .slice A ls.length c), (1, .func (.func 176) #[] #[.pointer (some ⟨b, 0, none⟩)]), (4, .int .i64 0), (7, .int .i64 ((ls.length : Nat) : Int)), (8, .int .i64 ((xv : Nat) : Int))]) (fun xv wr => (xv ≤ ls.length) ∧ (∀ (j : Nat) (y : Ls), j < xv → ls[j]? = some y → hmat he hn y = false) ∧ St w.heap.size w wr [.rd 2 (some ⟨b, 4, none⟩) 1 [.int .i64 he, .int .i64 hn], .rd 4 A ls.length ((ls).flatMap Ls.cells)]) (fun xv => ls.length - xv) (0) ?_ ?_ ?_))
 ·exact ⟨Nat.zero_le _, fun j y hj => absurd hj (Nat.not_lt_zero _), S⟩
 ·exact ⟨rfl, rfl, rfl, rfl, rfl, trivial⟩
 ·rintro k w1 ⟨hi3, hi4, S2⟩
  try dsimp only at hi3 hi4 S2; clear S
  refine cw [0, 1, 4, 7, 8] ?_
  refine x_sr ?_
  by_cases h5 : ((k : Nat) : Int) < ((ls.length : Nat) : Int)
  ·refine vv (ylssT h5) ?_
   refine wL_nil (wQ_then (wC_seq (wC_cond_t rfl (wC_skip (wQ_then (wC_seq (wC_block (wC_seq (wC_region (vm ?_))))))))))
   refine va ?_
   refine qk [0, 1, 4, 7, 8, 5] ?_
   refine x_tsr (vm ?_)
   iterate 2 refine vm ?_
   obtain ⟨b6, o7, rfl⟩ := Rd.addr (St.rd 1 S2 rfl) (by omega)
   obtain ⟨x8, hx9⟩ := elm k (St.rd 1 S2 rfl) (by omega)
   refine vv (v := .pointer (some ⟨b6, o7 + k * 4, none⟩)) (y_indexAddr rfl rfl rfl (r_indexAddr k Try.underlying23 inf141 (by omega) (by omega))) ?_
   refine vv (y_load rfl rfl (r_load_agg (cs := Ls.cells x8) Try.underlying141 rfl inf141 rfl (Rd.rg2 (St.rd 1 S2 rfl) (fun _ _ h => fm_get (enc := Ls.cells) (sz := 4) (fun _ => rfl) hx9 h)))) ?_
   have HC := fun w h => AckC_calls x8 b he hn w h
   cases hmt : hmat he hn x8
   ·rw [show (x8.hep == he && x8.hno == hn) = false from hmt] at HC
    refine wL_call (vs := [.agg #[.int .i64 x8.hep, .int .i64 x8.hno, .int .i64 x8.msg.no, .int .i64 x8.msg.body], .pointer (some ⟨b, 0, none⟩)]) (wn rfl) rfl rfl (e_callv (first := []) (cap := [.pointer (some ⟨b, 0, none⟩)]) (vs := [.agg #[.int .i64 x8.hep, .int .i64 x8.hno, .int .i64 x8.msg.no, .int .i64 x8.msg.body]]) rfl rfl en176 ⟨rfl, trivial⟩ rfl) (HC _ (St.rd 0 S2 rfl)) ?_
    rintro _ w10 ⟨rfl, hb12⟩
    refine ⟨_, rfl, ?_⟩
    have S11 := S2.on hb12; clear HC hb12 S2
    refine qk [0, 1, 4, 7, 8, 5, 16] ?_
    refine wQ_then (wC_cond_f rfl (wC_skip (wQ_blk_n (wQ_then (wC_region (vv (v := .int .i64 ((k + 1 : Nat) : Int)) (y_binop rfl rfl rfl (r_add (by omega) (by omega))) ?_))))))
    refine vm ?_
    refine qk [0, 1, 4, 7, 8] ?_
    refine wQ_round (k + 1) ?_ ⟨rfl, rfl, rfl, rfl, rfl, trivial⟩ (by first | omega | (dsimp only; omega))
    exact ⟨(by omega), (fun j y hj hy => (Nat.lt_succ_iff_lt_or_eq.1 hj).elim (fun h => hi4 j y h hy) (fun h => by rw [h, hx9] at hy; cases hy; exact hmt)), S11⟩
   ·rw [show (x8.hep == he && x8.hno == hn) = true from hmt] at HC
    refine wL_call (vs := [.agg #[.int .i64 x8.hep, .int .i64 x8.hno, .int .i64 x8.msg.no, .int .i64 x8.msg.body], .pointer (some ⟨b, 0, none⟩)]) (wn rfl) rfl rfl (e_callv (first := []) (cap := [.pointer (some ⟨b, 0, none⟩)]) (vs := [.agg #[.int .i64 x8.hep, .int .i64 x8.hno, .int .i64 x8.msg.no, .int .i64 x8.msg.body]]) rfl rfl en176 ⟨rfl, trivial⟩ rfl) (HC _ (St.rd 0 S2 rfl)) ?_
    rintro _ w13 ⟨rfl, hb15⟩
    refine ⟨_, rfl, ?_⟩
    have S14 := S2.on hb15; clear HC hb15 S2
    refine qk [0, 1, 4, 7, 8, 5, 16] ?_
    refine x_tysr (vm ?_)
    refine va ?_
    refine qk [4] ?_
    refine wQ_then (wC_ret (wQ_blk_ret (wQ_then_ret (wQ_then_ret (wQ_blk_ret (wQ_then_ret (pt ?_)))))))
    exact ⟨ret_int_ (idxLs_at hi4 hx9 hmt).symm, S14.low⟩
  ·refine vv (ylssF h5) ?_
   refine wL_nil (wQ_then (wC_seq (wC_cond_f rfl (wC_exit (wQ_then_exit (wQ_then_exit (wQ_blk_same (wQ_then (wC_seq (wC_region (va ?_)))))))))))
   refine qk [4] ?_
   refine x_te (pt ?_)
   exact ⟨ret_int_ (idxLs_none (fun j y hj hy => hi4 j y (by omega) hy)).symm, S2.low⟩

theorem none_of {he hn : Int} {ls : List Ls} (h : ¬ ∃ (k : Nat) (x : Ls), ls[k]? = some x ∧ hmat he hn x = true ∧ ∀ (j : Nat) (y : Ls), j < k → ls[j]? = some y → hmat he hn y = false) : ∀ y ∈ ls, hmat he hn y = false := by
  intro y hy
  rcases hf : ls.findIdx? (hmat he hn) with _ | k
  · exact List.findIdx?_eq_none_iff.1 hf y hy
  · obtain ⟨hk, h1, h2⟩ := List.findIdx?_eq_some_iff_getElem.1 hf
    refine absurd ⟨k, ls[k], List.getElem?_eq_getElem hk, h1, fun j z hj hz => ?_⟩ h
    have := h2 j hj
    obtain ⟨hj', e⟩ := List.getElem?_eq_some_iff.1 hz
    rw [e] at this
    simpa using this
theorem hmat_hn {he hn : Int} {x : Ls} (h : hmat he hn x = true) : x.hno = hn := by simp [hmat] at h; exact h.2
theorem hmat_no {he hn ep : Int} {x : Ls} (h : x.hep = ep) (h1 : he = ep) (h2 : x.hno = hn) : hmat he hn x = true := by simp [hmat, h, h1, h2]

set_option maxRecDepth 100000 in
set_option maxHeartbeats 2000000 in
theorem ack_calls {B g k c1 c2 : Nat} {w0 w : World} {fs : List Fact} {A1 A2 : Option Addr} {rs : List Msg} {ls : List Ls} {W : Wins} {ep nx gv kd id bd he hn : Int} (S : St B w0 w (.blk g (qRow ep nx gv (.slice A1 rs.length c1) (.slice A2 ls.length c2) W) 190 :: .own 137 2 (.slice A1 rs.length c1) rs.length ((rs).flatMap Msg.cells) :: .own 141 4 (.slice A2 ls.length c2) ls.length ((ls).flatMap Ls.cells) :: fs)) (hk : k < 4) (hlen : rs.length + ls.length ≤ 500) (hnx : 0 ≤ nx ∧ nx ≤ 1073741824) (hgv : 0 ≤ gv ∧ gv ≤ 1073741824) (hep : 0 ≤ ep ∧ ep ≤ 1048576) (hE : ∀ x ∈ ls, x.hep = ep) (hU : ∀ (i j : Nat) (a b : Ls), ls[i]? = some a → ls[j]? = some b → a.hno = b.hno → i = j) :
    Calls Try.prog 147 #[.pointer (some ⟨g, 0, none⟩), .agg #[.int .i64 kd, .int .i64 ((k : Nat) : Int), .int .i64 id, .int .i64 bd, .int .i64 he, .int .i64 hn]] w (DeskPost B w0 g fs (ackM ⟨ep, nx, gv, rs, ls, W⟩ he hn)) := by
 refine calls_of_wC (N := 41) (vs := [.pointer (some ⟨g, 0, none⟩), .agg #[.int .i64 kd, .int .i64 ((k : Nat) : Int), .int .i64 id, .int .i64 bd, .int .i64 he, .int .i64 hn]]) Try.func147 rfl rfl rfl ?_
 refine cw [0, 1] ?_
 refine x_sr (nb (row := #[.int .i64 kd, .int .i64 ((k : Nat) : Int), .int .i64 id, .int .i64 bd, .int .i64 he, .int .i64 hn]) S ?_); intro b1 w2 S3; clear S
 refine na (row := #[.int .i64 0, .int .i64 0, .int .i64 0, .int .i64 0]) S3 Try.zeroValue93 ?_; intro b4 w5 S6; clear S3
 refine va ?_
 refine qk [0, 3, 4, 5] ?_
 refine wQ_then (wC_seq (wC_seq (wC_quiet S6 mixed (by kernel_rfl) ?_)))
 refine uv (v := .pointer (some ⟨b1, 4, none⟩)) (fun _ _ => yfa _ fa37_4) ?_
 refine uv (v := .pointer (some ⟨b1, 4, none⟩)) (fun _ _ => yfa _ fa35_0) ?_
 refine uv (v := .int .i64 he) (fun _ Sx9 => ylc 1 Sx9 Try.underlying3) ?_
 refine uv (v := .pointer (some ⟨g, 0, none⟩)) (fun _ _ => ym) ?_
 refine uv (v := .pointer (some ⟨g, 0, none⟩)) (fun _ _ => y_nil rfl rfl trivial) ?_
 refine uv (v := .pointer (some ⟨g, 0, none⟩)) (fun _ _ => yfa _ fa190_0) ?_
 refine uv (v := .pointer (some ⟨g, 0, none⟩)) (fun _ _ => yfa _ fa29_0) ?_
 refine uv (v := .int .i64 ep) (fun _ Sx14 => (y_load rfl rfl (r_load Try.underlying3 rfl (St.cl 2 Sx14 rfl qRow_g0)))) ?_
 by_cases h1 : he = ep
 ·refine uv (v := .bool false) (fun _ _ => yneqF h1) ?_
  refine wU_nil fun w16 S17 => ?_; clear S6
  refine pk [0, 3, 4, 5, 15] ?_
  refine x_tnktsr (vm ?_)
  refine vv (y_nil rfl rfl trivial) ?_
  refine vv (yfa 0 fa190_0) ?_
  refine vv (yfa 4 fa29_4) ?_
  refine vv (y_load rfl rfl (r_load Try.underlying23 rfl (St.cl 2 S17 rfl qRow_g4))) ?_
  refine vv (v := .func (.func 176) #[] #[.pointer (some ⟨b1, 0, none⟩)]) (y_makeFunc (vs := []) (us := [.pointer (some ⟨b1, 0, none⟩)]) rfl trivial ⟨rfl, trivial⟩) ?_
  have HI := fun A c w h h2 => IdxLs_calls A c b1 he hn ls w h h2 (by omega)
  rcases Classical.em (∃ (k : Nat) (x : Ls), ls[k]? = some x ∧ hmat he hn x = true ∧ ∀ (j : Nat) (y : Ls), j < k → ls[j]? = some y → hmat he hn y = false) with ⟨kk, x, hx, hm, hbf⟩ | hno
  ·rw [idxLs_at hbf hx hm] at HI
   have hkk := (List.getElem?_eq_some_iff.1 hx).1
   refine wL_call (wn rfl) rfl rfl (e_call (vs := [.slice A2 ls.length c2, .func (.func 176) #[] #[.pointer (some ⟨b1, 0, none⟩)]]) rfl en175 ⟨rfl, rfl, trivial⟩) (HI _ _ _ (St.ord 4 S17 rfl) (blk_rd 1 S17 rfl rfl (fun j u h => by rcases j with _ | _ | _ <;> first | exact h | (simp at h)))) ?_
   rintro _ w18 ⟨rfl, hb20⟩
   refine ⟨_, rfl, ?_⟩
   have S19 := S17.on hb20; clear hb20 S17
   refine va ?_
   refine qk [0, 3, 4, 5, 6] ?_
   refine x_tssr (vm ?_)
   refine vv (dlssF (h := by omega)) ?_
   refine qk [0, 3, 4, 5, 6, 25] ?_
   refine x_tnktsr (vm ?_)
   refine vm ?_
   refine vv (y_nil rfl rfl trivial) ?_
   refine vv (yfa 0 fa190_0) ?_
   refine vv (yfa 4 fa29_4) ?_
   refine vv (y_load rfl rfl (r_load Try.underlying23 rfl (St.cl 2 S19 rfl qRow_g4))) ?_
   iterate 2 refine vm ?_
   refine vv (v := .int .i64 ((kk + 1 : Nat) : Int)) (y_binop rfl rfl rfl (r_add (by omega) (by omega))) ?_
   obtain ⟨g2, rfl⟩ := own_some (S19.own 4 rfl) (by omega)
   refine wL_call (wn rfl) rfl rfl (e_call (vs := [.slice (some ⟨g2, 0, none⟩) ls.length c2, .int .i64 ((kk : Nat) : Int), .int .i64 ((kk + 1 : Nat) : Int)]) rfl en177 ⟨rfl, rfl, rfl, trivial⟩) (DelLs_calls g2 ls.length c2 kk _ (ls.flatMap Ls.cells) _ (S19.own 4 rfl) (lss_one _) hkk) ?_
   rintro _ w21 ⟨rfl, hu23, ho24⟩
   refine ⟨_, rfl, ?_⟩
   rw [fm_erase (enc := Ls.cells) (sz := 4) (fun _ => rfl)] at ho24
   have S22 := S19.reown 4 rfl hu23 ho24; clear hu23 ho24 S19
   change St _ _ _ ((.blk b4 #[.int .i64 0, .int .i64 0, .int .i64 0, .int .i64 0] 93) :: (.blk b1 #[.int .i64 kd, .int .i64 ((k : Nat) : Int), .int .i64 id, .int .i64 bd, .int .i64 he, .int .i64 hn] 37) :: (.blk g (qRow ep nx gv (.slice A1 rs.length c1) (.slice (some ⟨g2, 0, none⟩) ls.length c2) W) 190) :: (.own 137 2 (.slice A1 rs.length c1) rs.length ((rs).flatMap Msg.cells)) :: (.own 141 4 (.slice (some ⟨g2, 0, none⟩) (ls.length - 1) c2) (ls.length - 1) ((ls.eraseIdx kk).flatMap Ls.cells)) :: fs) at S22
   refine vv (y_nil rfl rfl trivial) ?_
   refine vv (yfa 0 fa190_0) ?_
   refine vv (yfa 4 fa29_4) ?_
   refine wL_st (cs := #[.slice (some ⟨g2, 0, none⟩) (ls.length - 1) c2]) (row' := qRow ep nx gv (.slice A1 rs.length c1) (.slice (some ⟨g2, 0, none⟩) (ls.length - 1) c2) W) (fs' := (_ :: _ :: (.blk g (qRow ep nx gv (.slice A1 rs.length c1) (.slice (some ⟨g2, 0, none⟩) (ls.length - 1) c2) W) 190) :: _ :: _ :: fs)) 2 S22 (wn rfl) rfl rfl rfl rfl rfl rfl inf23 rfl (oneAll rfl) (Nat.le_of_ble_eq_true rfl) qRow_s4 rfl ?_; intro w25 S26; clear S22
   refine qk [3, 4, 5] ?_
   refine x_tsr (vv (v := .agg #[.int .i64 0, .int .i64 0, .int .i64 0, .int .i64 0]) yz ?_)
   refine sa 0 S26 inf93 ?_; intro w27 S28; clear S26
   refine va ?_
   refine qk [3, 4, 5] ?_
   refine x_te (pc 0 S28 Try.underlying93 inf93 ?_)
   have S29 : St B w0 w27 (_ :: _ :: _ :: fs) := (St.del 0 (St.del 1 S28)); clear S28
   have S30 := S29.sealAll 1 rfl; clear S29
   change St _ _ _ (_ :: (.rdo 2 A1 rs.length ((rs).flatMap Msg.cells)) :: _ :: fs) at S30
   have S31 := S30.sealAll 2 rfl; clear S30
   change St _ _ _ (_ :: _ :: (.rdo 4 (some ⟨g2, 0, none⟩) (ls.length - 1) ((ls.eraseIdx kk).flatMap Ls.cells)) :: fs) at S31
   have hel : (ls.eraseIdx kk).length = ls.length - 1 := List.length_eraseIdx_of_lt hkk
   have hfo := filt_one hx (hmat_hn hm) hU
   rw [ack_ok h1 (by rw [hfo, hel]; omega), hfo]
   refine ⟨rfl, A1, c1, (some ⟨g2, 0, none⟩), c2, ?_⟩
   dsimp only
   rw [hel]
   exact S31
  ·have hall := none_of hno
   rw [idxLs_none (fun j y _ hy => hall y (List.mem_of_getElem? hy))] at HI
   refine wL_call (wn rfl) rfl rfl (e_call (vs := [.slice A2 ls.length c2, .func (.func 176) #[] #[.pointer (some ⟨b1, 0, none⟩)]]) rfl en175 ⟨rfl, rfl, trivial⟩) (HI _ _ _ (St.ord 4 S17 rfl) (blk_rd 1 S17 rfl rfl (fun j u h => by rcases j with _ | _ | _ <;> first | exact h | (simp at h)))) ?_
   rintro _ w32 ⟨rfl, hb34⟩
   refine ⟨_, rfl, ?_⟩
   have S33 := S17.on hb34; clear hb34 S17
   refine va ?_
   refine qk [0, 3, 4, 5, 6] ?_
   refine x_tssr (vm ?_)
   refine vv dlssT ?_
   refine qk [0, 3, 4, 5, 6, 25] ?_
   refine x_tysr (vv (v := .agg #[.int .i64 7, .int .i64 0, .int .i64 0, .int .i64 0]) (y_build (vs := [(0, .int .i64 7)]) rfl ⟨rfl, rfl, trivial⟩ (by kernel_rfl)) ?_)
   refine sa 0 S33 inf93 ?_; intro w35 S36; clear S33
   refine va ?_
   refine qk [3, 4, 5] ?_
   refine x_teh (pc 0 S36 Try.underlying93 inf93 ?_)
   have S37 : St B w0 w35 (_ :: _ :: _ :: fs) := (St.del 0 (St.del 1 S36)); clear S36
   have S38 := S37.sealAll 1 rfl; clear S37
   change St _ _ _ (_ :: (.rdo 2 A1 rs.length ((rs).flatMap Msg.cells)) :: _ :: fs) at S38
   have S39 := S38.sealAll 2 rfl; clear S38
   change St _ _ _ (_ :: _ :: (.rdo 4 A2 ls.length ((ls).flatMap Ls.cells)) :: fs) at S39
   rw [ack_none h1 (by rw [filt_none (fun y hy hyn => by have := hall y hy; rw [hmat_no (hE y hy) h1 hyn] at this; cases this)])]
   refine ⟨rfl, A1, c1, A2, c2, ?_⟩
   dsimp only
   exact S39
 ·refine uv (v := .bool true) (fun _ _ => yneqT h1) ?_
  refine wU_nil fun w41 S42 => ?_; clear S6
  refine pk [0, 3, 4, 5, 15] ?_
  refine x_tysr (vv (v := .agg #[.int .i64 11, .int .i64 0, .int .i64 0, .int .i64 0]) (y_build (vs := [(0, .int .i64 11)]) rfl ⟨rfl, rfl, trivial⟩ (by kernel_rfl)) ?_)
  refine sa 0 S42 inf93 ?_; intro w43 S44; clear S42
  refine va ?_
  refine qk [3, 4, 5] ?_
  refine x_teh (pc 0 S44 Try.underlying93 inf93 ?_)
  have S45 : St B w0 w43 (_ :: _ :: _ :: fs) := (St.del 0 (St.del 1 S44)); clear S44
  have S46 := S45.sealAll 1 rfl; clear S45
  change St _ _ _ (_ :: (.rdo 2 A1 rs.length ((rs).flatMap Msg.cells)) :: _ :: fs) at S46
  have S47 := S46.sealAll 2 rfl; clear S46
  change St _ _ _ (_ :: _ :: (.rdo 4 A2 ls.length ((ls).flatMap Ls.cells)) :: fs) at S47
  rw [ack_stale h1]
  refine ⟨rfl, A1, c1, A2, c2, ?_⟩
  dsimp only
  exact S47
end Go.Proofs.Ytkjlafpafmihaaa

