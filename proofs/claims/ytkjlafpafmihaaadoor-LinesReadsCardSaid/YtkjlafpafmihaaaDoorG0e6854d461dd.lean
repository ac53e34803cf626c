/- Parts of proofs: lemmas on memory, on single functions and on the plain models; no condition of their own. -/
import Derived.Test.YtkjlafpafmihaaaDoorRows
import Derived.WalkKit
import Derived.ProofKit
import Derived.OpenShut
import Derived.SizedLaws
import Derived.WalkSpells
import Derived.WalkLawsBesides
import Derived.Handy
import Derived.Deep.QuietTactic
import Derived.BigQuiet
import Derived.Lib.Hide
import Derived.Maps.AppendAt
import Derived.Deep.AppendLies
import Derived.RegionTactic
import Derived.OwnWalk
import Derived.Laws.Tables
import Derived.Deep.MidRow
import Derived.StillTailTactics
import Derived.OrdersHeld
import Derived.Deep.RegionHeld3
import Derived.Laws.IdiomCopy
import Derived.ChangeKeysEq
import Derived.Laws.BitsAllLaws
import Derived.Scope
import Derived.Test.YtkjlafpafmihaaaDoorG173045c9580a
import Derived.Test.YtkjlafpafmihaaaDoorG3606cc3ac865
import Derived.Test.YtkjlafpafmihaaaDoorG97f8767f7743
import Derived.Test.YtkjlafpafmihaaaDoorGa487125d06f9
import Derived.Test.YtkjlafpafmihaaaDoorGa6cfea583cdc
import Derived.Test.YtkjlafpafmihaaaDoorGab8ecdf11465
import Derived.Test.YtkjlafpafmihaaaDoorGd3cfdc1357eb
import Derived.Test.YtkjlafpafmihaaaDoorGea90f12dfe92
import Derived.Test.YtkjlafpafmihaaaDoorGedcf6e6df767
import Derived.Test.YtkjlafpafmihaaaDoorGfb0ccb768d7d
set_option linter.unusedVariables false
set_option linter.unusedSimpArgs false

namespace Go.Proofs.YtkjlafpafmihaaaDoor
open Go.ChangeShapes Go.WideShapes Go.ChangeAt Go.RowKit
section
variable {P : Program} {N : Nat} {l : Slots} {w w' w0 : World} {B : Nat} {fs fs' : List Fact} {ops : Array Oper} {o : Oper} {rest : List Oper} {Q : Exit → Act → World → Prop} {v : Value}
def setL : List Value → Nat → List Value → List Value
  | xs, _, [] => xs
  | xs, k, v :: vs => setL (xs.set k v) (k + 1) vs
theorem setAll_setL : ∀ (vs : List Value) (cur : Array Value) (k : Nat), (setAll cur k vs).toList = setL cur.toList k vs
  | [], _, _ => rfl
  | v :: vs, cur, k => by rw [setAll, setL, setAll_setL vs, Array.toList_setIfInBounds]
theorem setL_take (m : Nat) : ∀ (vs xs : List Value) (k : Nat), (setL xs k vs).take m = setL (xs.take m) k vs
  | [], _, _ => rfl
  | v :: vs, xs, k => by rw [setL, setL, setL_take m vs, List.take_set]
theorem setL_length : ∀ (vs xs : List Value) (k : Nat), (setL xs k vs).length = xs.length
  | [], _, _ => rfl
  | v :: vs, xs, k => by rw [setL, setL_length vs, List.length_set]
theorem own_put {e : TypeId} {s g n c k : Nat} {xs : List Value} (h : w.ownsRow B e s (.slice (some ⟨g, 0, none⟩) n c) n xs) (cs : List Value) : (w.setCells g k cs).ownsRow B e s (.slice (some ⟨g, 0, none⟩) n c) n (setL xs k cs) := by
  obtain ⟨hl, h | ⟨g', cap, cur, hv, hg, hh, hn, hc, hsz, ht⟩⟩ := h
  · exact absurd h.1 (by simp)
  injection hv with h1 h2 h3
  injection h1 with h1
  injection h1 with h1 h4 h5
  subst h1
  subst h3
  have hb : Blk w g cur e := ⟨hh⟩
  have hb' := blk_setCells cs k hb
  refine ⟨by rw [setL_length]; exact hl, .inr ⟨g, c, setAll cur k cs, rfl, hg, hb'.blk, hn, hc, by rw [setAll_size]; exact hsz, ?_⟩⟩
  rw [setAll_setL, setL_take, ht]
theorem St.ownPut {e : TypeId} {s g n c k : Nat} {xs : List Value} (i : Nat) (S : St B w0 w fs) (hi : fs[i]? = some (.own e s (.slice (some ⟨g, 0, none⟩) n c) n xs)) (cs : List Value) : St B w0 (w.setCells g k cs) (fs.set i (.own e s (.slice (some ⟨g, 0, none⟩) n c) n (setL xs k cs))) :=
  St.reown i S hi (upd_setCells g cs k w) (own_put (S.own i hi) cs)
theorem St.ownThere {e : TypeId} {s g n c k m : Nat} {xs : List Value} (i : Nat) (S : St B w0 w fs) (hi : fs[i]? = some (.own e s (.slice (some ⟨g, 0, none⟩) n c) n xs)) (hk : k + m ≤ n * s) : w.there g k m := fun j hj => by
  obtain ⟨hl, h | ⟨g', cap, cur, hv, hg, hh, hn, hc, hsz, ht⟩⟩ := S.own i hi
  · exact absurd h.1 (by simp)
  injection hv with h1 h2 h3
  injection h1 with h1
  injection h1 with h1 h4 h5
  subst h1
  subst h3
  have hle : n * s ≤ c * s := Nat.mul_le_mul_right s hn
  have hlt : k + j < cur.size := by rw [hsz]; omega
  have hb : Blk w g cur e := ⟨hh⟩
  exact ⟨by rw [hb.cell (k := k + j) (Array.getElem?_eq_getElem hlt)]; rfl, hb.free _⟩
/-- Cells of such a row are written. -/
theorem wL_stOwn {ty e : TypeId} {x y : Operand} {s g n c k m : Nat} {cs : Array Value} {xs xs' : List Value} (i : Nat) (S : St B w0 w fs) (hw : Wanted N ops l o true) (hd : o.dst = none) (ho : o.op = .store ty x y) (hx : ev l x = some (.pointer (some ⟨g, k, none⟩))) (hy : ev l y = some v)
    (hi : fs[i]? = some (.own e s (.slice (some ⟨g, 0, none⟩) n c) n xs)) (hv : v.cells = cs) (hz : (P.info? ty).map (·.size) = some m) (hm : cs.size = m) (h1 : ∀ u ∈ cs.toList, u.oneCell' = true) (hk : k + m ≤ n * s) (hxs : setL xs k cs.toList = xs')
    (h : ∀ w', St B w0 w' (fs.set i (.own e s (.slice (some ⟨g, 0, none⟩) n c) n xs')) → wL P N ops Q rest l w') : wL P N ops Q (o :: rest) l w := by
  subst hxs
  exact wL_eff hw hd (f_store ho hx hy (r_store hv hz hm h1 (S.ownThere i hi hk))) (h _ (S.ownPut i hi cs.toList))
/-- A cell of a row that is known as a function. -/
theorem wL_stAt {ty t : TypeId} {x y : Operand} {b k : Nat} {u : Value} {row row' : Array Value} (i : Nat) (S : St B w0 w fs) (hw : Wanted N ops l o true) (hd : o.dst = none) (ho : o.op = .store ty x y) (hx : ev l x = some (.pointer (some ⟨b, k, none⟩))) (hy : ev l y = some v)
    (hi : fs[i]? = some (.blk b row t)) (hv : v.cells = #[u]) (hz : (P.info? ty).map (·.size) = some 1) (h1 : u.oneCell' = true) (hk : k < row.size) (hrow : row.setIfInBounds k u = row')
    (h : ∀ w', St B w0 w' (fs.set i (.blk b row' t)) → wL P N ops Q rest l w') : wL P N ops Q (o :: rest) l w := by
  refine wL_st i S hw hd ho hx hy hi hv hz rfl (by simpa using h1) (by omega) (row' := row') ?_ rfl h
  subst hrow
  rfl
end
end Go.Proofs.YtkjlafpafmihaaaDoor

namespace Go.Proofs.YtkjlafpafmihaaaDoor
open Go.ChangeShapes Go.WideShapes Go.RowKit

set_option maxRecDepth 100000 in
set_option maxHeartbeats 8000000 in
theorem ActFault_calls (x : Ac) (w : World) :
    Calls Tryd.prog 15 #[.agg #[.int .i64 x.kd, .int .i64 x.nd, .int .i64 x.qu, .int .i64 x.at_, .int .i64 x.kp, .int .i64 x.ek, .int .i64 x.ep, .int .i64 x.ei, .int .i64 x.eb, .int .i64 x.eh, .int .i64 x.en]] w (IntPost w (actFault x)) := by
 have S := St.start w
 refine fnw 35 Tryd.func15 ?_
 refine cw [0] ?_
 refine x_sr (nb (row := #[.int .i64 x.kd, .int .i64 x.nd, .int .i64 x.qu, .int .i64 x.at_, .int .i64 x.kp, .int .i64 x.ek, .int .i64 x.ep, .int .i64 x.ei, .int .i64 x.eb, .int .i64 x.eh, .int .i64 x.en]) S ?_); intro b1 w2 S3; clear S
 refine va ?_
 refine qk [1, 2] ?_
 refine wQ_then (wC_seq (wC_seq ?_))
 have HW := fun w => ActWord_calls x w
 rcases hf : formL x.kd x.ek with _ | l
 ·rw [wordno _ _ hf] at HW
  refine wC_region (vv (ylr 0 S3 Tryd.underlying41 inf41) ?_)
  refine cab en23 S3 (HW _) ?_; intro w4 S5; clear S3
  refine vv (v := .bool true) (y_binop rfl rfl rfl (r_seql (by kernel_rfl))) ?_
  refine qk [1, 2, 8] ?_
  refine x_tysr (va ?_)
  refine qk [2] ?_
  refine x_teh (pt ?_)
  rw [af_none hf]
  exact ⟨rfl, S5.low⟩
 ·have hl5 := form_len hf
  refine wC_region (vv (ylr 0 S3 Tryd.underlying41 inf41) ?_)
  refine cab en23 S3 (HW _) ?_; intro w7 S8; clear S3
  refine vv (v := .bool false) (y_binop rfl rfl rfl (r_seql (wordne _ _ _ hf))) ?_
  refine qk [1, 2, 8] ?_
  refine x_tnktsr (vv (ylr 0 S8 Tryd.underlying41 inf41) ?_)
  refine cal en24 (actNumbers_calls x l hf _) ?_
  rintro _ w12 ⟨A10, A11, rfl, T14⟩
  refine ⟨_, rfl, ?_⟩
  have S13 := S8.ext T14 rfl; clear T14 S8
  change St _ _ _ [.rdo 1 A10 l.length ((l).flatMap (valC x)), .rdo 1 A11 l.length ((l).flatMap mostC), _] at S13
  refine vm ?_
  refine vv yx ?_
  refine vv yx ?_
  iterate 2 refine va ?_
  refine qk [1, 2, 3, 4] ?_
  refine x_tssr (va ?_)
  refine wL_nil (wQ_then (wC_block (wC_loop (X := Nat) (fun xv => [(1, .pointer (some ⟨b1, 0, none⟩)), (2, .int .i64 0), (3, .slice A10 l.length l.length), (4, .slice A11 l.length l.length), (5, .int .i64 ((xv : Nat) : Int))]) (fun xv wr => (xv ≤ l.length) ∧ ((l.take xv).all (inB x) = true) ∧ St w.heap.size w wr [.rdo 1 A10 l.length ((l).flatMap (valC x)), .rdo 1 A11 l.length ((l).flatMap mostC), .blk b1 #[.int .i64 x.kd, .int .i64 x.nd, .int .i64 x.qu, .int .i64 x.at_, .int .i64 x.kp, .int .i64 x.ek, .int .i64 x.ep, .int .i64 x.ei, .int .i64 x.eb, .int .i64 x.eh, .int .i64 x.en] 41]) (fun xv => l.length - xv) (0) ?_ ?_ ?_)))
  ·exact ⟨Nat.zero_le _, rfl, S13⟩
  ·exact ⟨rfl, rfl, rfl, rfl, rfl, trivial⟩
  ·rintro k w15 ⟨hi17, hi18, S16⟩
   try dsimp only at hi17 hi18 S16; clear S13
   refine wC_sub (l' := [(1, .pointer (some ⟨b1, 0, none⟩)), (2, .int .i64 0), (3, .slice A10 l.length l.length), (4, .slice A11 l.length l.length), (5, .int .i64 ((k : Nat) : Int))]) ⟨rfl, rfl, rfl, rfl, rfl, trivial⟩ (wC_seq (wC_seq (wC_region (vm ?_))))
   refine vm ?_
   refine vv (v := .int .i64 ((l.length : Nat) : Int)) (y_builtin (vs := [.slice A10 l.length l.length]) rfl ⟨rfl, trivial⟩ fun _ => r_len rfl Tryd.underlying62) ?_
   by_cases h19 : ((k : Nat) : Int) < ((l.length : Nat) : Int)
   ·refine vv (ylssT h19) ?_
    refine qk [1, 2, 3, 4, 5, 17] ?_
    refine wQ_then (wC_cond_t rfl (wC_skip (wQ_then (wC_seq (wC_block (wC_seq (wC_quiet S16 mixed (by kernel_rfl) ?_)))))))
    refine uv (v := .slice A10 l.length l.length) (fun _ _ => ym) ?_
    refine uv (v := .int .i64 ((k : Nat) : Int)) (fun _ _ => ym) ?_
    obtain ⟨b22, o23, rfl⟩ := Rd.addr (St.rdo 0 S16 rfl) (by omega)
    obtain ⟨x24, hx25⟩ := elm k (St.rdo 0 S16 rfl) (by omega)
    refine uv (v := .pointer (some ⟨b22, o23 + k * 1, none⟩)) (fun _ _ => (y_indexAddr rfl rfl rfl (r_indexAddr k Tryd.underlying62 inf3 (by omega) (by omega)))) ?_
    refine uv (v := .int .i64 (x.get x24.1)) (fun _ Sx27 => (y_load rfl rfl (r_load Tryd.underlying3 rfl (Rd.cl2 (i := 0) (St.rdo 0 Sx27 rfl) (fm_get (enc := (valC x)) (sz := 1) (fun _ => rfl) hx25 rfl))))) ?_
    refine uv (v := .slice A11 l.length l.length) (fun _ _ => ym) ?_
    refine uv (v := .int .i64 ((k : Nat) : Int)) (fun _ _ => ym) ?_
    obtain ⟨b30, o31, rfl⟩ := Rd.addr (St.rdo 1 S16 rfl) (by omega)
    refine uv (v := .pointer (some ⟨b30, o31 + k * 1, none⟩)) (fun _ _ => (y_indexAddr rfl rfl rfl (r_indexAddr k Tryd.underlying62 inf3 (by omega) (by omega)))) ?_
    refine uv (v := .int .i64 x24.2) (fun _ Sx33 => (y_load rfl rfl (r_load Tryd.underlying3 rfl (Rd.cl2 (i := 0) (St.rdo 1 Sx33 rfl) (fm_get (enc := mostC) (sz := 1) (fun _ => rfl) hx25 rfl))))) ?_
    by_cases hp34 : 0 ≤ x.get x24.1 ∧ x.get x24.1 ≤ x24.2
    ·refine wU_call (v := .bool true) (vs := [.int .i64 (x.get x24.1), .int .i64 0, .int .i64 x24.2]) (wn rfl) rfl rfl (fun _ => (e_call (vs := [.int .i64 (x.get x24.1), .int .i64 0, .int .i64 x24.2]) rfl en25 ⟨rfl, rfl, rfl, trivial⟩)) (fun _ Sx35 => (In_t hp34 _).mono fun _ _ h => ⟨h.1, h.2 ▸ Sx35⟩) ?_
     refine uv (v := .bool false) (fun _ _ => yno) ?_
     refine wU_nil fun w37 S38 => ?_; clear S16
     refine pk [1, 2, 3, 4, 5, 29] ?_
     refine wQ_then (wC_cond_f rfl (wC_skip (wQ_blk_n (wQ_then (wC_region (vm ?_))))))
     refine vv (v := .int .i64 ((k + 1 : Nat) : Int)) (y_binop rfl rfl rfl (r_add (by omega) (by omega))) ?_
     refine va ?_
     refine qk [1, 2, 3, 4, 5] ?_
     refine wQ_round (k + 1) ?_ ⟨rfl, rfl, rfl, rfl, rfl, trivial⟩ (by first | omega | (dsimp only; omega))
     exact ⟨(by omega), (all_take hx25 hi18 hp34), S38⟩
    ·refine wU_call (v := .bool false) (vs := [.int .i64 (x.get x24.1), .int .i64 0, .int .i64 x24.2]) (wn rfl) rfl rfl (fun _ => (e_call (vs := [.int .i64 (x.get x24.1), .int .i64 0, .int .i64 x24.2]) rfl en25 ⟨rfl, rfl, rfl, trivial⟩)) (fun _ Sx39 => (In_f hp34 _).mono fun _ _ h => ⟨h.1, h.2 ▸ Sx39⟩) ?_
     refine uv (v := .bool true) (fun _ _ => yno) ?_
     refine wU_nil fun w41 S42 => ?_; clear S16
     refine pk [1, 2, 3, 4, 5, 29] ?_
     refine x_tysr (va ?_)
     refine qk [2] ?_
     refine wQ_then (wC_ret (wQ_blk_ret (wQ_then_ret (wQ_then_ret (wQ_blk_ret (wQ_then_ret (pt ?_)))))))
     rw [af_range hf (all_bad hx25 hp34)]
     exact ⟨rfl, S42.low⟩
   ·refine vv (ylssF h19) ?_
    refine qk [1, 2, 3, 4, 5, 17] ?_
    refine wQ_then (wC_cond_f rfl (wC_exit (wQ_then_exit (wQ_then_exit (wQ_blk_same (wQ_then (wC_seq ?_)))))))
    obtain rfl : k = l.length := by omega
    have hall := hi18
    rw [List.take_length] at hall
    have HN := fun w => ac_neq (a := x.ints) (b := (keep x).ints) rfl rfl w
    by_cases hfi : fin x l = zeros
    ·rw [decide_eq_true ((keep_fin hf).2 hfi)] at HN
     refine wC_seq (wC_quiet S16 mixed (by kernel_rfl) ?_)
     refine uv (v := .agg #[.int .i64 x.kd, .int .i64 x.nd, .int .i64 x.qu, .int .i64 x.at_, .int .i64 x.kp, .int .i64 x.ek, .int .i64 x.ep, .int .i64 x.ei, .int .i64 x.eb, .int .i64 x.eh, .int .i64 x.en]) (fun _ Sx43 => ylr 2 Sx43 Tryd.underlying41 inf41) ?_
     refine uv (v := .agg #[.int .i64 x.kd, .int .i64 x.nd, .int .i64 x.qu, .int .i64 x.at_, .int .i64 x.kp, .int .i64 x.ek, .int .i64 x.ep, .int .i64 x.ei, .int .i64 x.eb, .int .i64 x.eh, .int .i64 x.en]) (fun _ Sx44 => ylr 2 Sx44 Tryd.underlying41 inf41) ?_
     refine uv (v := .slice A10 l.length l.length) (fun _ _ => ym) ?_
     refine wU_call (v := .agg #[.int .i64 ((keep x).kd), .int .i64 ((keep x).nd), .int .i64 ((keep x).qu), .int .i64 ((keep x).at_), .int .i64 ((keep x).kp), .int .i64 ((keep x).ek), .int .i64 ((keep x).ep), .int .i64 ((keep x).ei), .int .i64 ((keep x).eb), .int .i64 ((keep x).eh), .int .i64 ((keep x).en)]) (wn rfl) rfl rfl (fun _ => (e_call (vs := [.agg #[.int .i64 x.kd, .int .i64 x.nd, .int .i64 x.qu, .int .i64 x.at_, .int .i64 x.kp, .int .i64 x.ek, .int .i64 x.ep, .int .i64 x.ei, .int .i64 x.eb, .int .i64 x.eh, .int .i64 x.en], .slice A10 l.length l.length]) rfl en26 ⟨rfl, rfl, trivial⟩)) (fun _ Sx46 => (actOf_calls x l hf A10 l.length _ (St.rdo 0 Sx46 rfl)).mono fun _ _ h => ⟨h.1, Sx46.on h.2⟩) ?_
     refine uv (v := .bool false) (fun _ _ => (y_binop rfl rfl rfl (r_eqg (by kernel_rfl) (HN _)))) ?_
     refine wU_nil fun w48 S49 => ?_; clear S16
     refine pk [2, 34] ?_
     refine x_tnktsr (va ?_)
     refine qk [2] ?_
     refine x_te (pt ?_)
     rw [af_ok hf hall hfi]
     exact ⟨rfl, S49.low⟩
    ·rw [decide_eq_false (fun h => hfi ((keep_fin hf).1 h))] at HN
     refine wC_seq (wC_quiet S16 mixed (by kernel_rfl) ?_)
     refine uv (v := .agg #[.int .i64 x.kd, .int .i64 x.nd, .int .i64 x.qu, .int .i64 x.at_, .int .i64 x.kp, .int .i64 x.ek, .int .i64 x.ep, .int .i64 x.ei, .int .i64 x.eb, .int .i64 x.eh, .int .i64 x.en]) (fun _ Sx50 => ylr 2 Sx50 Tryd.underlying41 inf41) ?_
     refine uv (v := .agg #[.int .i64 x.kd, .int .i64 x.nd, .int .i64 x.qu, .int .i64 x.at_, .int .i64 x.kp, .int .i64 x.ek, .int .i64 x.ep, .int .i64 x.ei, .int .i64 x.eb, .int .i64 x.eh, .int .i64 x.en]) (fun _ Sx51 => ylr 2 Sx51 Tryd.underlying41 inf41) ?_
     refine uv (v := .slice A10 l.length l.length) (fun _ _ => ym) ?_
     refine wU_call (v := .agg #[.int .i64 ((keep x).kd), .int .i64 ((keep x).nd), .int .i64 ((keep x).qu), .int .i64 ((keep x).at_), .int .i64 ((keep x).kp), .int .i64 ((keep x).ek), .int .i64 ((keep x).ep), .int .i64 ((keep x).ei), .int .i64 ((keep x).eb), .int .i64 ((keep x).eh), .int .i64 ((keep x).en)]) (wn rfl) rfl rfl (fun _ => (e_call (vs := [.agg #[.int .i64 x.kd, .int .i64 x.nd, .int .i64 x.qu, .int .i64 x.at_, .int .i64 x.kp, .int .i64 x.ek, .int .i64 x.ep, .int .i64 x.ei, .int .i64 x.eb, .int .i64 x.eh, .int .i64 x.en], .slice A10 l.length l.length]) rfl en26 ⟨rfl, rfl, trivial⟩)) (fun _ Sx53 => (actOf_calls x l hf A10 l.length _ (St.rdo 0 Sx53 rfl)).mono fun _ _ h => ⟨h.1, Sx53.on h.2⟩) ?_
     refine uv (v := .bool true) (fun _ _ => (y_binop rfl rfl rfl (r_eqg (by kernel_rfl) (HN _)))) ?_
     refine wU_nil fun w55 S56 => ?_; clear S16
     refine pk [2, 34] ?_
     refine x_tysr (va ?_)
     refine qk [2] ?_
     refine x_teh (pt ?_)
     rw [af_rest hf hall hfi]
     exact ⟨rfl, S56.low⟩

set_option maxRecDepth 100000 in
set_option maxHeartbeats 8000000 in
theorem LCheck_calls (x : Ac) (w : World) :
    Calls Tryd.prog 11 #[.agg #[.int .i64 x.kd, .int .i64 x.nd, .int .i64 x.qu, .int .i64 x.at_, .int .i64 x.kp, .int .i64 x.ek, .int .i64 x.ep, .int .i64 x.ei, .int .i64 x.eb, .int .i64 x.eh, .int .i64 x.en]] w (IntPost w (actFault x)) := by
 have S := St.start w
 refine fnw 57 Tryd.func11 ?_
 refine cw [0] ?_
 refine x_sr (nb (row := #[.int .i64 x.kd, .int .i64 x.nd, .int .i64 x.qu, .int .i64 x.at_, .int .i64 x.kp, .int .i64 x.ek, .int .i64 x.ep, .int .i64 x.ei, .int .i64 x.eb, .int .i64 x.eh, .int .i64 x.en]) S ?_); intro b1 w2 S3; clear S
 refine va ?_
 refine qk [1, 2] ?_
 refine wQ_then (wC_seq ?_)
 have HF := fun w h => form_calls b1 x w h
 rcases hf : formL x.kd x.ek with _ | l
 ·rw [hf] at HF
  refine wC_region (wL_call (wn rfl) rfl rfl (e_call (vs := [.pointer (some ⟨b1, 0, none⟩)]) rfl en20 ⟨rfl, trivial⟩) (HF _ (St.bld 0 S3 rfl rfl rfl)) ?_)
  rintro _ w4 ⟨rfl, hb6⟩
  refine ⟨_, rfl, ?_⟩
  have S5 := S3.on hb6; clear hb6 S3
  refine vm ?_
  refine vv yx ?_
  refine vv yx ?_
  refine vv yx ?_
  iterate 3 refine va ?_
  refine qk [1, 2, 4, 5] ?_
  refine x_tssr (vm ?_)
  refine vv (v := .bool true) yno ?_
  refine qk [1, 2, 4, 16] ?_
  refine x_tysr (va ?_)
  refine qk [2] ?_
  refine x_teh (pt ?_)
  rw [af_none hf]
  exact ⟨rfl, S5.low⟩
 ·rw [hf] at HF
  have hl5 := form_len hf
  refine wC_region (wL_call (wn rfl) rfl rfl (e_call (vs := [.pointer (some ⟨b1, 0, none⟩)]) rfl en20 ⟨rfl, trivial⟩) (HF _ (St.bld 0 S3 rfl rfl rfl)) ?_)
  rintro _ w8 ⟨A7, rfl, T10⟩
  refine ⟨_, rfl, ?_⟩
  have S9 := S3.ext T10 rfl; clear T10 S3
  change St _ _ _ [.rdo 2 A7 l.length ((l).flatMap (slotCells b1)), _] at S9
  refine vm ?_
  refine vv yx ?_
  refine vv yx ?_
  refine vv yx ?_
  iterate 3 refine va ?_
  refine qk [1, 2, 4, 5] ?_
  refine x_tssr (vm ?_)
  refine vv (v := .bool false) yno ?_
  refine qk [1, 2, 4, 16] ?_
  refine x_tnktssr (vm ?_)
  refine vv (v := .int .i64 ((l.length : Nat) : Int)) (y_builtin (vs := [.slice A7 l.length l.length]) rfl ⟨rfl, trivial⟩ fun _ => r_len rfl Tryd.underlying53) ?_
  refine vm ?_
  refine qk [1, 2, 4, 17, 18, 19] ?_
  refine wQ_then (wC_block (wC_loop (X := Nat) (fun xv => [(1, .pointer (some ⟨b1, 0, none⟩)), (2, .int .i64 0), (4, .slice A7 l.length l.length), (17, .slice A7 l.length l.length), (18, .int .i64 ((l.length : Nat) : Int)), (19, .int .i64 ((xv : Nat) : Int))]) (fun xv wr => (xv ≤ l.length) ∧ ((l.take xv).all (inB x) = true) ∧ St w.heap.size w wr [.rdo 2 A7 l.length ((l).flatMap (slotCells b1)), .blk b1 #[.int .i64 x.kd, .int .i64 x.nd, .int .i64 x.qu, .int .i64 x.at_, .int .i64 x.kp, .int .i64 x.ek, .int .i64 x.ep, .int .i64 x.ei, .int .i64 x.eb, .int .i64 x.eh, .int .i64 x.en] 41]) (fun xv => l.length - xv) (0) ?_ ?_ ?_))
  ·exact ⟨Nat.zero_le _, rfl, S9⟩
  ·exact ⟨rfl, rfl, rfl, rfl, rfl, rfl, trivial⟩
  ·rintro k w11 ⟨hi13, hi14, S12⟩
   try dsimp only at hi13 hi14 S12; clear S9
   refine wC_sub (l' := [(1, .pointer (some ⟨b1, 0, none⟩)), (2, .int .i64 0), (4, .slice A7 l.length l.length), (17, .slice A7 l.length l.length), (18, .int .i64 ((l.length : Nat) : Int)), (19, .int .i64 ((k : Nat) : Int))]) ⟨rfl, rfl, rfl, rfl, rfl, rfl, trivial⟩ (wC_seq (wC_region ?_))
   by_cases h15 : ((k : Nat) : Int) < ((l.length : Nat) : Int)
   ·refine vv (ylssT h15) ?_
    refine wL_nil (wQ_then (wC_seq (wC_cond_t rfl (wC_skip (wQ_then (wC_seq (wC_block (wC_seq (wC_region ?_)))))))))
    obtain ⟨b16, o17, rfl⟩ := Rd.addr (St.rdo 0 S12 rfl) (by omega)
    obtain ⟨x18, hx19⟩ := elm k (St.rdo 0 S12 rfl) (by omega)
    refine vv (v := .pointer (some ⟨b16, o17 + k * 2, none⟩)) (y_indexAddr rfl rfl rfl (r_indexAddr k Tryd.underlying53 inf59 (by omega) (by omega))) ?_
    refine vv (y_load rfl rfl (r_load_agg (cs := (slotCells b1) x18) Tryd.underlying59 rfl inf59 rfl (Rd.rg2 (St.rdo 0 S12 rfl) (fun _ _ h => fm_get (enc := (slotCells b1)) (sz := 2) (fun _ => rfl) hx19 h)))) ?_
    refine na (row := #[.pointer none, .int .i64 0]) S12 Tryd.zeroValue59 ?_; intro b20 w21 S22; clear S12
    refine sa 0 S22 inf59 ?_; intro w23 S24; clear S22
    refine qk [1, 2, 4, 17, 18, 19, 7] ?_
    refine wQ_then ?_
    have hp := form_lt hf x18 (List.mem_of_getElem? hx19)
    refine wC_seq (wC_quiet S24 mixed (by kernel_rfl) ?_)
    refine uv (v := .pointer (some ⟨b20, 0, none⟩)) (fun _ _ => yfa _ fa59_0) ?_
    refine uv (v := .pointer (some ⟨b1, x18.1, none⟩)) (fun _ Sx26 => ylc 0 Sx26 Tryd.underlying57) ?_
    refine uv (v := .pointer (some ⟨b1, x18.1, none⟩)) (fun _ _ => y_nil rfl rfl trivial) ?_
    refine uv (v := .int .i64 (x.get x18.1)) (fun _ Sx28 => (y_load rfl rfl (r_load Tryd.underlying3 rfl (St.cl 2 Sx28 rfl (Ac.cellA x hp.2.1))))) ?_
    by_cases h29 : x.get x18.1 < 0
    ·refine uv (v := .bool true) (fun _ _ => ylssT h29) ?_
     refine uv (v := .bool true) (fun _ _ => ym) ?_
     iterate 7 refine usk ?_
     refine uv (v := .bool true) (fun _ _ => ypT) ?_
     refine wU_nil fun w33 S34 => ?_; clear S24
     refine pk [1, 2, 4, 17, 18, 19, 36] ?_
     refine x_tysr (va ?_)
     refine qk [2] ?_
     refine wQ_then (wC_ret (wQ_blk_ret (wQ_then_ret (wQ_then_ret (wQ_blk_ret (wQ_then_ret (pt ?_)))))))
     rw [af_range hf (all_bad hx19 (by omega))]
     exact ⟨rfl, S34.low⟩
    ·refine uv (v := .bool false) (fun _ _ => ylssF h29) ?_
     refine uv (v := .bool false) (fun _ _ => ym) ?_
     refine ug (v := .pointer (some ⟨b20, 0, none⟩)) (fun _ _ => yfa _ fa59_0) ?_
     refine ug (v := .pointer (some ⟨b1, x18.1, none⟩)) (fun _ Sx38 => ylc 0 Sx38 Tryd.underlying57) ?_
     refine ug (v := .pointer (some ⟨b1, x18.1, none⟩)) (fun _ _ => y_nil rfl rfl trivial) ?_
     refine ug (v := .int .i64 (x.get x18.1)) (fun _ Sx40 => (y_load rfl rfl (r_load Tryd.underlying3 rfl (St.cl 2 Sx40 rfl (Ac.cellA x hp.2.1))))) ?_
     refine ug (v := .pointer (some ⟨b20, 1, none⟩)) (fun _ _ => yfa _ fa59_1) ?_
     refine ug (v := .int .i64 x18.2) (fun _ Sx42 => ylc 0 Sx42 Tryd.underlying3) ?_
     by_cases h43 : x18.2 < x.get x18.1
     ·refine ug (v := .bool true) (fun _ _ => ygtrT h43) ?_
      refine uv (v := .bool true) (fun _ _ => ypF) ?_
      refine wU_nil fun w46 S47 => ?_; clear S24
      refine pk [1, 2, 4, 17, 18, 19, 36] ?_
      refine x_tysr (va ?_)
      refine qk [2] ?_
      refine wQ_then (wC_ret (wQ_blk_ret (wQ_then_ret (wQ_then_ret (wQ_blk_ret (wQ_then_ret (pt ?_)))))))
      rw [af_range hf (all_bad hx19 (by omega))]
      exact ⟨rfl, S47.low⟩
     ·refine ug (v := .bool false) (fun _ _ => ygtrF h43) ?_
      refine uv (v := .bool false) (fun _ _ => ypF) ?_
      refine wU_nil fun w50 S51 => ?_; clear S24
      refine pk [1, 2, 4, 17, 18, 19, 36] ?_
      refine wQ_then (wC_cond_f rfl (wC_skip (wQ_blk_n (wQ_then (wC_region (vv (v := .int .i64 ((k + 1 : Nat) : Int)) (y_binop rfl rfl rfl (r_add (by omega) (by omega))) ?_))))))
      refine vm ?_
      refine qk [1, 2, 4, 17, 18, 19] ?_
      have S52 : St _ _ _ [_, _] := S51.dels [0]; clear S51
      refine wQ_round (k + 1) ?_ ⟨rfl, rfl, rfl, rfl, rfl, rfl, trivial⟩ (by first | omega | (dsimp only; omega))
      exact ⟨(by omega), (all_take hx19 hi14 (by omega)), S52⟩
   ·refine vv (ylssF h15) ?_
    refine wL_nil (wQ_then (wC_seq (wC_cond_f rfl (wC_exit (wQ_then_exit (wQ_then_exit (wQ_blk_same (wQ_then (wC_seq (wC_seq (wC_region (vm ?_))))))))))))
    refine vv (v := .int .i64 ((l.length : Nat) : Int)) (y_builtin (vs := [.slice A7 l.length l.length]) rfl ⟨rfl, trivial⟩ fun _ => r_len rfl Tryd.underlying53) ?_
    refine vm ?_
    refine qk [1, 2, 38, 39, 40] ?_
    refine wQ_then (wC_block ?_)
    obtain rfl : k = l.length := by omega
    have hall := hi14
    rw [List.take_length] at hall
    refine wC_loop (X := Nat) (fun xv => [(1, .pointer (some ⟨b1, 0, none⟩)), (2, .int .i64 0), (38, .slice A7 l.length l.length), (39, .int .i64 ((l.length : Nat) : Int)), (40, .int .i64 ((xv : Nat) : Int))]) (fun xv wr => (xv ≤ l.length) ∧ St w.heap.size w wr [.rdo 2 A7 l.length ((l).flatMap (slotCells b1)), .blk b1 (acRow (zer x.ints (l.take xv))) 41]) (fun xv => l.length - xv) (0) ?_ ?_ ?_
    ·exact ⟨Nat.zero_le _, S12⟩
    ·exact ⟨rfl, rfl, rfl, rfl, rfl, trivial⟩
    ·rintro j w53 ⟨hi55, S54⟩
     try dsimp only at hi55 S54; clear S12
     refine wC_sub (l' := [(1, .pointer (some ⟨b1, 0, none⟩)), (2, .int .i64 0), (38, .slice A7 l.length l.length), (39, .int .i64 ((l.length : Nat) : Int)), (40, .int .i64 ((j : Nat) : Int))]) ⟨rfl, rfl, rfl, rfl, rfl, trivial⟩ (wC_seq (wC_region ?_))
     by_cases h56 : ((j : Nat) : Int) < ((l.length : Nat) : Int)
     ·refine vv (ylssT h56) ?_
      refine wL_nil (wQ_then (wC_seq (wC_cond_t rfl (wC_skip (wQ_then (wC_seq (wC_block (wC_seq (wC_region ?_)))))))))
      obtain ⟨b57, o58, rfl⟩ := Rd.addr (St.rdo 0 S54 rfl) (by omega)
      obtain ⟨x59, hx60⟩ := elm j (St.rdo 0 S54 rfl) (by omega)
      refine vv (v := .pointer (some ⟨b57, o58 + j * 2, none⟩)) (y_indexAddr rfl rfl rfl (r_indexAddr j Tryd.underlying53 inf59 (by omega) (by omega))) ?_
      refine vv (y_load rfl rfl (r_load_agg (cs := (slotCells b1) x59) Tryd.underlying59 rfl inf59 rfl (Rd.rg2 (St.rdo 0 S54 rfl) (fun _ _ h => fm_get (enc := (slotCells b1)) (sz := 2) (fun _ => rfl) hx60 h)))) ?_
      refine na (row := #[.pointer none, .int .i64 0]) S54 Tryd.zeroValue59 ?_; intro b61 w62 S63; clear S54
      refine sa 0 S63 inf59 ?_; intro w64 S65; clear S63
      refine qk [1, 2, 38, 39, 40, 9] ?_
      refine x_tr (vv (yfa 0 fa59_0) ?_)
      refine vv (ylc 0 S65 Tryd.underlying57) ?_
      refine vv (y_nil rfl rfl trivial) ?_
      have hp := form_lt hf x59 (List.mem_of_getElem? hx60)
      refine wL_stAt (row' := acRow (zer x.ints (l.take (j + 1)))) 2 S65 (wn rfl) rfl rfl rfl rfl rfl rfl inf3 rfl (by rw [acRow_size (by rw [zer_len]; rfl)]; omega) (by rw [acRow_set, zer_take hx60]) ?_; intro w66 S67; clear S65
      change St _ _ _ [_, _, .blk b1 (acRow (zer x.ints (l.take (j + 1)))) 41] at S67
      refine qk [1, 2, 38, 39, 40] ?_
      refine wQ_blk_n (wQ_then (wC_region (vv (v := .int .i64 ((j + 1 : Nat) : Int)) (y_binop rfl rfl rfl (r_add (by omega) (by omega))) ?_)))
      refine vm ?_
      refine qk [1, 2, 38, 39, 40] ?_
      have S68 : St _ _ _ [_, _] := S67.dels [0]; clear S67
      refine wQ_round (j + 1) ?_ ⟨rfl, rfl, rfl, rfl, rfl, trivial⟩ (by first | omega | (dsimp only; omega))
      exact ⟨(by omega), S68⟩
     ·refine vv (ylssF h56) ?_
      refine wL_nil (wQ_then (wC_seq (wC_cond_f rfl (wC_exit (wQ_then_exit (wQ_then_exit (wQ_blk_same (wQ_then (wC_seq (wC_seq ?_))))))))))
      obtain rfl : j = l.length := by omega
      rw [List.take_length] at S54
      refine wC_region (vv (yfa 0 fa41_0) ?_)
      refine vv (y_load rfl rfl (r_load Tryd.underlying3 rfl (St.cl 1 S54 rfl (acRow_get (by rw [zer_zero _ _ (fun p hp => (form_lt hf p hp).1)]; rfl))))) ?_
      by_cases h69 : x.kd = 2
      ·refine vv (yeqlT h69) ?_
       refine qk [1, 2, 50] ?_
       refine wQ_then (wC_cond_t rfl (wC_region (vv (yfa 5 fa41_5) ?_)))
       refine vv (yfa 5 fa39_0) ?_
       refine wL_stAt (row' := acRow ((zer x.ints l).set 5 0)) 1 S54 (wn rfl) rfl rfl rfl rfl rfl rfl inf3 rfl (by rw [acRow_size (by simp only [List.length_set, zer_len]; rfl)]; decide) acRow_set ?_; intro w70 S71; clear S54
       change St _ _ _ [_, .blk b1 (acRow ((zer x.ints l).set 5 0)) 41] at S71
       refine qk [1, 2] ?_
       refine x_tsr (vv (yfa 0 fa41_0) ?_)
       refine wL_stAt (row' := acRow (((zer x.ints l).set 5 0).set 0 0)) 1 S71 (wn rfl) rfl rfl rfl rfl rfl rfl inf3 rfl (by rw [acRow_size (by simp only [List.length_set, zer_len]; rfl)]; decide) acRow_set ?_; intro w72 S73; clear S71
       change St _ _ _ [_, .blk b1 (acRow (((zer x.ints l).set 5 0).set 0 0)) 41] at S73
       refine qk [1, 2] ?_
       refine wQ_then (wC_seq (wC_seq ?_))
       have hfn : fin x l = ((zer x.ints l).set 5 0).set 0 0 := by unfold fin; rw [if_pos h69]
       have hfl : (((zer x.ints l).set 5 0).set 0 0).length = 11 := by simp only [List.length_set, zer_len]; rfl
       have HN := fun w => ac_neq (a := ((zer x.ints l).set 5 0).set 0 0) (b := zeros) hfl rfl w
       rw [← hfn] at HN
       by_cases hfi : fin x l = zeros
       ·rw [decide_eq_true hfi] at HN
        rw [hfn] at HN
        refine wC_region (vv (v := .agg (acRow (((zer x.ints l).set 5 0).set 0 0))) (y_load rfl rfl (r_load_row 1 S73 rfl Tryd.underlying41 rfl inf41 (acRow_size hfl))) ?_)
        refine vv (v := .agg #[.int .i64 0, .int .i64 0, .int .i64 0, .int .i64 0, .int .i64 0, .int .i64 0, .int .i64 0, .int .i64 0, .int .i64 0, .int .i64 0, .int .i64 0]) yz ?_
        refine vv (v := .bool false) (y_binop rfl rfl rfl (r_eqg (by kernel_rfl) (HN _))) ?_
        refine qk [2, 56] ?_
        refine x_tnktsr (va ?_)
        refine qk [2] ?_
        refine x_te (pt ?_)
        rw [af_ok hf hall hfi]
        exact ⟨rfl, S73.low⟩
       ·rw [decide_eq_false hfi] at HN
        rw [hfn] at HN
        refine wC_region (vv (v := .agg (acRow (((zer x.ints l).set 5 0).set 0 0))) (y_load rfl rfl (r_load_row 1 S73 rfl Tryd.underlying41 rfl inf41 (acRow_size hfl))) ?_)
        refine vv (v := .agg #[.int .i64 0, .int .i64 0, .int .i64 0, .int .i64 0, .int .i64 0, .int .i64 0, .int .i64 0, .int .i64 0, .int .i64 0, .int .i64 0, .int .i64 0]) yz ?_
        refine vv (v := .bool true) (y_binop rfl rfl rfl (r_eqg (by kernel_rfl) (HN _))) ?_
        refine qk [2, 56] ?_
        refine x_tysr (va ?_)
        refine qk [2] ?_
        refine x_teh (pt ?_)
        rw [af_rest hf hall hfi]
        exact ⟨rfl, S73.low⟩
      ·refine vv (yeqlF h69) ?_
       refine qk [1, 2, 50] ?_
       refine x_tnktsr (vv (yfa 0 fa41_0) ?_)
       refine wL_stAt (row' := acRow ((zer x.ints l).set 0 0)) 1 S54 (wn rfl) rfl rfl rfl rfl rfl rfl inf3 rfl (by rw [acRow_size (by simp only [List.length_set, zer_len]; rfl)]; decide) acRow_set ?_; intro w74 S75; clear S54
       change St _ _ _ [_, .blk b1 (acRow ((zer x.ints l).set 0 0)) 41] at S75
       refine qk [1, 2] ?_
       refine wQ_then (wC_seq (wC_seq ?_))
       have hfn : fin x l = (zer x.ints l).set 0 0 := by unfold fin; rw [if_neg h69]
       have hfl : ((zer x.ints l).set 0 0).length = 11 := by simp only [List.length_set, zer_len]; rfl
       have HN := fun w => ac_neq (a := (zer x.ints l).set 0 0) (b := zeros) hfl rfl w
       rw [← hfn] at HN
       by_cases hfi : fin x l = zeros
       ·rw [decide_eq_true hfi] at HN
        rw [hfn] at HN
        refine wC_region (vv (v := .agg (acRow ((zer x.ints l).set 0 0))) (y_load rfl rfl (r_load_row 1 S75 rfl Tryd.underlying41 rfl inf41 (acRow_size hfl))) ?_)
        refine vv (v := .agg #[.int .i64 0, .int .i64 0, .int .i64 0, .int .i64 0, .int .i64 0, .int .i64 0, .int .i64 0, .int .i64 0, .int .i64 0, .int .i64 0, .int .i64 0]) yz ?_
        refine vv (v := .bool false) (y_binop rfl rfl rfl (r_eqg (by kernel_rfl) (HN _))) ?_
        refine qk [2, 56] ?_
        refine x_tnktsr (va ?_)
        refine qk [2] ?_
        refine x_te (pt ?_)
        rw [af_ok hf hall hfi]
        exact ⟨rfl, S75.low⟩
       ·rw [decide_eq_false hfi] at HN
        rw [hfn] at HN
        refine wC_region (vv (v := .agg (acRow ((zer x.ints l).set 0 0))) (y_load rfl rfl (r_load_row 1 S75 rfl Tryd.underlying41 rfl inf41 (acRow_size hfl))) ?_)
        refine vv (v := .agg #[.int .i64 0, .int .i64 0, .int .i64 0, .int .i64 0, .int .i64 0, .int .i64 0, .int .i64 0, .int .i64 0, .int .i64 0, .int .i64 0, .int .i64 0]) yz ?_
        refine vv (v := .bool true) (y_binop rfl rfl rfl (r_eqg (by kernel_rfl) (HN _))) ?_
        refine qk [2, 56] ?_
        refine x_tysr (va ?_)
        refine qk [2] ?_
        refine x_teh (pt ?_)
        rw [af_rest hf hall hfi]
        exact ⟨rfl, S75.low⟩
end Go.Proofs.YtkjlafpafmihaaaDoor

