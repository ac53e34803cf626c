/- Parts of proofs: lemmas on memory, on single functions and on the plain models; no condition of their own. -/
import Derived.Test.YtkjlafpafmihaaaRows
import Derived.WalkKit
import Derived.ProofKit
import Derived.OpenShut
import Derived.SizedLaws
import Derived.WalkSpells
import Derived.WalkLawsBesides
import Derived.Handy
import Derived.Deep.QuietTactic
import Derived.BigQuiet
import Derived.Lib.Hide
import Derived.Maps.AppendAt
import Derived.Deep.AppendLies
import Derived.RegionTactic
import Derived.OwnWalk
import Derived.ChangeKeysEq
import Derived.Laws.Tables
import Derived.Deep.MidRow
import Derived.StillTailTactics
import Derived.OrdersHeld
import Derived.Deep.RegionHeld3
import Derived.Laws.IdiomCopy
import Derived.Laws.BitsAllLaws
import Derived.Test.YtkjlafpafmihaaaG1b3f031f3838
import Derived.Test.YtkjlafpafmihaaaG3d3d00a3ec74
import Derived.Test.YtkjlafpafmihaaaGa09fbd9efb78
import Derived.Test.YtkjlafpafmihaaaGa90ca60c6bbf
import Derived.Test.YtkjlafpafmihaaaGb48b52f65941
import Derived.Test.YtkjlafpafmihaaaGc7e713607da7
import Derived.Test.YtkjlafpafmihaaaGf662d898f049
set_option linter.unusedVariables false
set_option linter.unusedSimpArgs false

namespace Go.Proofs.Ytkjlafpafmihaaa
open Go.ChangeShapes Go.WideShapes Go.ChangeAt Go.RowKit

section
variable {P : Program} {w : World} {t e : TypeId} {A : Option Addr} {n c s B : Nat} {xs : List Value} {kd ke kf : IntKind}
theorem r_eqg {op : BinOp} {xo yo : Operand} {a b : Array Value} {v : Value} (hg : P.eqGuardType P.depth t = false) (h : (binOp op t (.agg a) (.agg b)).run P w = .ok v w) : (do eqGuard op t xo yo (.agg a) (.agg b); binOp op t (.agg a) (.agg b) : Sem Value).run P w = .ok v w := by
  have h1 : (eqGuard op t xo yo (.agg a) (.agg b)).run P w = .ok () w := by
    have hp : ∀ w, (program : Sem Program).run P w = .ok P w := fun _ => rfl
    unfold eqGuard
    cases op <;> first | rfl | simp [hp, Sem.run_bind, Result.andThen, hg]
  rw [Sem.run_bind, h1]
  exact h
end
end Go.Proofs.Ytkjlafpafmihaaa

namespace Go.Proofs.Ytkjlafpafmihaaa
open Go.ChangeShapes Go.WideShapes Go.ChangeAt Go.RowKit
section
variable {P : Program} {N : Nat} {l : Slots} {o : Oper} {w w' w0 : World} {B : Nat} {fs : List Fact}
theorem own_some {base : Nat} {e : TypeId} {size n c : Nat} {A : Option Addr} {xs : List Value} (h : w.ownsRow base e size (.slice A n c) n xs) (hn : 0 < n) : ∃ g, A = some ⟨g, 0, none⟩ := by
  rcases h.2 with ⟨_, h0⟩ | ⟨g, cap, cur, hv, _⟩
  · omega
  · exact ⟨g, by injection hv⟩
theorem St.reown {e e' : TypeId} {s s' : Nat} {g n c n' c' : Nat} {xs xs' : List Value} (i : Nat) (S : St B w0 w fs) (hi : fs[i]? = some (.own e s (.slice (some ⟨g, 0, none⟩) n c) n xs)) (hu : Upd w g w') (ho : w'.ownsRow B e' s' (.slice (some ⟨g, 0, none⟩) n' c') n' xs') :
    St B w0 w' (fs.set i (.own e' s' (.slice (some ⟨g, 0, none⟩) n' c') n' xs')) :=
  S.turn i hi (hu.next S.low (Fact.foot_lt (S.all i _ hi) rfl).1) (Nat.le_of_eq hu.size.symm) (fun k _ hk => hu.block k (fun e => hk (by rw [e]; rfl))) ho (fun k hk => .inl hk)
end
theorem rdo_nil {B : Nat} {w0 w : World} {fs : List Fact} {s : Nat} (S : St B w0 w fs) : St B w0 w (.rdo s none 0 [] :: fs) := S.cons ⟨Rd.none_, fun a h => by cases h⟩ fun k hk => by cases hk
end Go.Proofs.Ytkjlafpafmihaaa

namespace Go.Proofs.Ytkjlafpafmihaaa
open Go.ChangeShapes Go.WideShapes Go.RowKit

theorem inf3 : (Try.prog.info? 3).map (·.size) = some 1 := by kernel_rfl
theorem inf4 : (Try.prog.info? 4).map (·.size) = some 1 := by kernel_rfl
theorem inf162 : (Try.prog.info? 162).map (·.size) = some 3 := by kernel_rfl
theorem infz162 : (Try.prog.info? 162).map (fun i => (i.zero, i.size, i.bytes)) = some (some (.agg #[.int .i64 0, .int .i64 0, .int .i64 0]), 3, 24) := by kernel_rfl
theorem fa162_0 (b o : Nat) (w : World) : (Instr.fieldAt 162 (.pointer (some ⟨b, o, none⟩)) 0).run Try.prog w = .ok (.pointer (some ⟨b, o, none⟩)) w := by kernel_rfl
theorem fa162_1 (b o : Nat) (w : World) : (Instr.fieldAt 162 (.pointer (some ⟨b, o, none⟩)) 1).run Try.prog w = .ok (.pointer (some ⟨b, o + 1, none⟩)) w := by kernel_rfl
theorem fa162_2 (b o : Nat) (w : World) : (Instr.fieldAt 162 (.pointer (some ⟨b, o, none⟩)) 2).run Try.prog w = .ok (.pointer (some ⟨b, o + 2, none⟩)) w := by kernel_rfl
theorem inf164 : (Try.prog.info? 164).map (·.size) = some 3 := by kernel_rfl
theorem infz164 : (Try.prog.info? 164).map (fun i => (i.zero, i.size, i.bytes)) = some (some (.agg #[.int .i64 0, .int .i64 0, .int .i64 0]), 3, 24) := by kernel_rfl
theorem en35 (args : Array Value) (w : World) : (callFunc 35 args).run Try.prog w = .ok (.enter 35 args) w := enters_of_ Try.func35 (by kernel_rfl) rfl args w
theorem en36 (args : Array Value) (w : World) : (callFunc 36 args).run Try.prog w = .ok (.enter 36 args) w := enters_of_ Try.func36 (by kernel_rfl) rfl args w
theorem en37 (args : Array Value) (w : World) : (callFunc 37 args).run Try.prog w = .ok (.enter 37 args) w := enters_of_ Try.func37 (by kernel_rfl) rfl args w
theorem en38 (args : Array Value) (w : World) : (callFunc 38 args).run Try.prog w = .ok (.enter 38 args) w := enters_of_ Try.func38 (by kernel_rfl) rfl args w
theorem en39 (args : Array Value) (w : World) : (callFunc 39 args).run Try.prog w = .ok (.enter 39 args) w := enters_of_ Try.func39 (by kernel_rfl) rfl args w
theorem en107 (args : Array Value) (w : World) : (callFunc 107 args).run Try.prog w = .ok (.enter 107 args) w := enters_of_ Try.func107 (by kernel_rfl) rfl args w
theorem en113 (args : Array Value) (w : World) : (callFunc 113 args).run Try.prog w = .ok (.enter 113 args) w := enters_of_ Try.func113 (by kernel_rfl) rfl args w
theorem en114 (args : Array Value) (w : World) : (callFunc 114 args).run Try.prog w = .ok (.enter 114 args) w := enters_of_ Try.func114 (by kernel_rfl) rfl args w
theorem en115 (args : Array Value) (w : World) : (callFunc 115 args).run Try.prog w = .ok (.enter 115 args) w := enters_of_ Try.func115 (by kernel_rfl) rfl args w
theorem en116 (args : Array Value) (w : World) : (callFunc 116 args).run Try.prog w = .ok (.enter 116 args) w := enters_of_ Try.func116 (by kernel_rfl) rfl args w
theorem en117 (args : Array Value) (w : World) : (callFunc 117 args).run Try.prog w = .ok (.enter 117 args) w := enters_of_ Try.func117 (by kernel_rfl) rfl args w
theorem en118 (args : Array Value) (w : World) : (callFunc 118 args).run Try.prog w = .ok (.enter 118 args) w := enters_of_ Try.func118 (by kernel_rfl) rfl args w
theorem mixed : Try.prog.follows .mixedOrders = true := by kernel_rfl
end Go.Proofs.Ytkjlafpafmihaaa

namespace Go.Proofs.Ytkjlafpafmihaaa
open Go.ChangeShapes Go.WideShapes Go.RowKit
/-- Some of the slots, by their numbers. -/
inductive Pick (l : Slots) : List Nat → Slots → Prop
  | z : Pick l [] []
  | s {k : Nat} {ks : List Nat} {v : Value} {l' : Slots} : lk l k = some v → Pick l ks l' → Pick l (k :: ks) ((k, v) :: l')
theorem Pick.sub {l : Slots} {ks : List Nat} {l' : Slots} (h : Pick l ks l') : SubL l l' := by
  induction h with
  | z => exact trivial
  | s h _ ih => exact ⟨h, ih⟩
/-- A fact of a list in place of another. -/
inductive SetAt (f : Fact) : List Fact → Nat → List Fact → Prop
  | z {g : Fact} {fs : List Fact} : SetAt f (g :: fs) 0 (f :: fs)
  | s {g : Fact} {fs fs' : List Fact} {i : Nat} : SetAt f fs i fs' → SetAt f (g :: fs) (i + 1) (g :: fs')
theorem SetAt.eq {f : Fact} {fs fs' : List Fact} {i : Nat} (h : SetAt f fs i fs') : fs.set i f = fs' := by
  induction h with
  | z => rfl
  | s _ ih => rw [List.set_cons_succ, ih]
section
variable {P : Program} {N : Nat} {l l' : Slots} {w w' w0 : World} {ops : Array Oper} {o : Oper} {rest : List Oper} {Q : Exit → Act → World → Prop} {d B : Nat} {v p : Value} {fs fs' : List Fact} {ex : Exit}
theorem qk (ks : List Nat) (h : wQ N Q .normal l' w) (hp : Pick l ks l' := by repeat' first | exact Pick.z | apply Pick.s rfl) : wL P N ops Q [] l w := wL_nil (wQ_sub hp.sub h)
theorem pk (ks : List Nat) (h : wQ N Q ex l' w) (hp : Pick l ks l' := by repeat' first | exact Pick.z | apply Pick.s rfl) : wQ N Q ex l w := wQ_sub hp.sub h
theorem cw {c : Code} (ks : List Nat) (h : wC P N c Q l' w) (hp : Pick l ks l' := by repeat' first | exact Pick.z | apply Pick.s rfl) : wC P N c Q l w := wC_sub hp.sub h
/-! ### What an operation yields -/
section
variable {x : Operand}
theorem ym (ho : o.op = .move x := by exact rfl) (hx : ev l x = some v := by exact rfl) : Yld P N l o w v := y_move ho hx
theorem yx {k : Nat} {vs : Array Value} (ho : o.op = .extract x k := by exact rfl) (hx : ev l x = some (.tuple vs) := by exact rfl) (hk : vs[k]? = some v := by exact rfl) : Yld P N l o w v := y_extract ho hx hk
theorem ypT {c y : Operand} (ho : o.op = .pick c x y := by exact rfl) (hc : ev l c = some (.bool true) := by exact rfl) (hx : ev l x = some v := by exact rfl) : Yld P N l o w v := y_pick_t ho hc hx
theorem ypF {c y : Operand} (ho : o.op = .pick c x y := by exact rfl) (hc : ev l c = some (.bool false) := by exact rfl) (hx : ev l y = some v := by exact rfl) : Yld P N l o w v := y_pick_f ho hc hx
theorem yno {t : TypeId} {b c : Bool} (ho : o.op = .unOp .not t x := by exact rfl) (hx : ev l x = some (.bool b) := by exact rfl) (hb : (!b) = c := by exact rfl) : Yld P N l o w (.bool c) := hb ▸ y_unop ho hx r_not
theorem ylc {b k : Nat} {row : Array Value} {tt t : TypeId} {ds : TypeDesc} (i : Nat) (S : St B w0 w fs) (hu : P.underlying t = some ds) (ho : o.op = .load t x := by exact rfl) (hx : ev l x = some (.pointer (some ⟨b, k, none⟩)) := by exact rfl) (hd : ds.isRow = false := by exact rfl)
    (hi : fs[i]? = some (.blk b row tt) := by exact rfl) (hk : row[k]? = some v := by exact rfl) : Yld P N l o w v := y_load ho hx (r_load hu hd (St.cl i S hi hk))
theorem yfa {s : TypeId} {f b o0 : Nat} {g : Nat → Nat} (o' : Nat) (hf : ∀ (b o : Nat) (w : World), (Instr.fieldAt s (.pointer (some ⟨b, o, none⟩)) f).run P w = .ok (.pointer (some ⟨b, g o, none⟩)) w) (ho : o.op = .fieldAddr s x f := by exact rfl)
    (hx : ev l x = some (.pointer (some ⟨b, o0, none⟩)) := by exact rfl) (he : g o0 = o' := by exact rfl) : Yld P N l o w (.pointer (some ⟨b, o', none⟩)) := he ▸ y_fieldAddr ho hx (hf b o0 w)
end
section
variable {t tt : TypeId} {kd : IntKind} {xo yo : Operand} {x y : Int}
theorem ylssT (h : x < y) (ho : o.op = .binOp .lss t xo yo tt := by exact rfl) (hx : ev l xo = some (.int kd x) := by exact rfl) (hy : ev l yo = some (.int kd y) := by exact rfl) : Yld P N l o w (.bool true) := y_binop ho hx hy (r_lss_t h)
theorem dlssT (ho : o.op = .binOp .lss t xo yo tt := by exact rfl) (hx : ev l xo = some (.int kd x) := by exact rfl) (hy : ev l yo = some (.int kd y) := by exact rfl) (h : x < y := by decide) : Yld P N l o w (.bool true) := y_binop ho hx hy (r_lss_t h)
theorem ylssF (h : ¬ x < y) (ho : o.op = .binOp .lss t xo yo tt := by exact rfl) (hx : ev l xo = some (.int kd x) := by exact rfl) (hy : ev l yo = some (.int kd y) := by exact rfl) : Yld P N l o w (.bool false) := y_binop ho hx hy (r_lss_f h)
theorem dlssF (ho : o.op = .binOp .lss t xo yo tt := by exact rfl) (hx : ev l xo = some (.int kd x) := by exact rfl) (hy : ev l yo = some (.int kd y) := by exact rfl) (h : ¬ x < y := by decide) : Yld P N l o w (.bool false) := y_binop ho hx hy (r_lss_f h)
theorem ygtrT (h : y < x) (ho : o.op = .binOp .gtr t xo yo tt := by exact rfl) (hx : ev l xo = some (.int kd x) := by exact rfl) (hy : ev l yo = some (.int kd y) := by exact rfl) : Yld P N l o w (.bool true) := y_binop ho hx hy (r_gtr_t h)
theorem dgtrT (ho : o.op = .binOp .gtr t xo yo tt := by exact rfl) (hx : ev l xo = some (.int kd x) := by exact rfl) (hy : ev l yo = some (.int kd y) := by exact rfl) (h : y < x := by decide) : Yld P N l o w (.bool true) := y_binop ho hx hy (r_gtr_t h)
theorem ygtrF (h : ¬ y < x) (ho : o.op = .binOp .gtr t xo yo tt := by exact rfl) (hx : ev l xo = some (.int kd x) := by exact rfl) (hy : ev l yo = some (.int kd y) := by exact rfl) : Yld P N l o w (.bool false) := y_binop ho hx hy (r_gtr_f h)
theorem dgtrF (ho : o.op = .binOp .gtr t xo yo tt := by exact rfl) (hx : ev l xo = some (.int kd x) := by exact rfl) (hy : ev l yo = some (.int kd y) := by exact rfl) (h : ¬ y < x := by decide) : Yld P N l o w (.bool false) := y_binop ho hx hy (r_gtr_f h)
theorem ygeqT (h : y ≤ x) (ho : o.op = .binOp .geq t xo yo tt := by exact rfl) (hx : ev l xo = some (.int kd x) := by exact rfl) (hy : ev l yo = some (.int kd y) := by exact rfl) : Yld P N l o w (.bool true) := y_binop ho hx hy (r_geq_t h)
theorem ygeqF (h : ¬ y ≤ x) (ho : o.op = .binOp .geq t xo yo tt := by exact rfl) (hx : ev l xo = some (.int kd x) := by exact rfl) (hy : ev l yo = some (.int kd y) := by exact rfl) : Yld P N l o w (.bool false) := y_binop ho hx hy (r_geq_f h)
theorem yeqlT (h : x = y) (ho : o.op = .binOp .eql t xo yo tt := by exact rfl) (hx : ev l xo = some (.int kd x) := by exact rfl) (hy : ev l yo = some (.int kd y) := by exact rfl) : Yld P N l o w (.bool true) := y_binop ho hx hy (r_eql_t h)
theorem yeqlF (h : ¬ x = y) (ho : o.op = .binOp .eql t xo yo tt := by exact rfl) (hx : ev l xo = some (.int kd x) := by exact rfl) (hy : ev l yo = some (.int kd y) := by exact rfl) : Yld P N l o w (.bool false) := y_binop ho hx hy (r_eql_f h)
theorem yneqT (h : ¬ x = y) (ho : o.op = .binOp .neq t xo yo tt := by exact rfl) (hx : ev l xo = some (.int kd x) := by exact rfl) (hy : ev l yo = some (.int kd y) := by exact rfl) : Yld P N l o w (.bool true) := y_binop ho hx hy (r_neq_t h)
theorem yneqF (h : x = y) (ho : o.op = .binOp .neq t xo yo tt := by exact rfl) (hx : ev l xo = some (.int kd x) := by exact rfl) (hy : ev l yo = some (.int kd y) := by exact rfl) : Yld P N l o w (.bool false) := y_binop ho hx hy (r_neq_f h)
end
/-! ### Steps -/
section
variable {C : World → Prop} {Qa : Act → Prop} {j : Nat} {t : Nat} {u : Value} {x : Operand}
theorem vv (hy : Yld P N l o w v) (h : wL P N ops Q rest ((d, v) :: l) w) (hw : o.guard = none := by exact rfl) (hd : o.dst = some d := by exact rfl) (hN : Nat.blt d N = true := by exact rfl) : wL P N ops Q (o :: rest) l w := wL_val (wn hw) hd hN hy h
theorem vm (h : wL P N ops Q rest ((d, v) :: l) w) (hw : o.guard = none := by exact rfl) (hd : o.dst = some d := by exact rfl) (hN : Nat.blt d N = true := by exact rfl) (ho : o.op = .move x := by exact rfl) (hx : ev l x = some v := by exact rfl) : wL P N ops Q (o :: rest) l w := wL_val (wn hw) hd hN (y_move ho hx) h
theorem va (h : wL P N ops Q rest ((d, v) :: l) w) (hw : o.guard = none := by exact rfl) (hd : o.dst = some d := by exact rfl) (hN : Nat.blt d N = true := by exact rfl) (ho : o.op = .assign x := by exact rfl) (hx : ev l x = some v := by exact rfl) : wL P N ops Q (o :: rest) l w := wL_val (wn hw) hd hN (y_assign ho hx) h
theorem vg {b : Bool} (hy : Yld P N l o w v) (h : wL P N ops Q rest ((d, v) :: l) w) (hg : o.guard = some (j, b) := by exact rfl) (hj : (ops[j]?).bind (·.dst) = some t := by exact rfl) (hv : lk l t = some u := by exact rfl) (hr : (yl u == some b) = true := by exact rfl)
    (hd : o.dst = some d := by exact rfl) (hN : Nat.blt d N = true := by exact rfl) : wL P N ops Q (o :: rest) l w := wL_val (wg hg hj hv hr) hd hN hy h
theorem vs {b : Bool} (h : wL P N ops Q rest ((d, undef) :: l) w) (hg : o.guard = some (j, b) := by exact rfl) (hj : (ops[j]?).bind (·.dst) = some t := by exact rfl) (hv : lk l t = some u := by exact rfl) (hr : (yl u == some b) = false := by exact rfl) (hd : o.dst = some d := by exact rfl) (hN : Nat.blt d N = true := by exact rfl) : wL P N ops Q (o :: rest) l w := wL_skip (wg hg hj hv hr) hd hN h
theorem uv (hy : ∀ w, C w → Yld P N l o w v) (h : wU P N ops C Qa rest ((d, v) :: l)) (hw : o.guard = none := by exact rfl) (hd : o.dst = some d := by exact rfl) (hN : Nat.blt d N = true := by exact rfl) : wU P N ops C Qa (o :: rest) l := wU_val (wn hw) hd hN hy h
theorem ug {b : Bool} (hy : ∀ w, C w → Yld P N l o w v) (h : wU P N ops C Qa rest ((d, v) :: l)) (hg : o.guard = some (j, b) := by exact rfl) (hj : (ops[j]?).bind (·.dst) = some t := by exact rfl) (hv : lk l t = some u := by exact rfl) (hr : (yl u == some b) = true := by exact rfl)
    (hd : o.dst = some d := by exact rfl) (hN : Nat.blt d N = true := by exact rfl) : wU P N ops C Qa (o :: rest) l := wU_val (wg hg hj hv hr) hd hN hy h
theorem usk {b : Bool} (h : wU P N ops C Qa rest ((d, undef) :: l)) (hg : o.guard = some (j, b) := by exact rfl) (hj : (ops[j]?).bind (·.dst) = some t := by exact rfl) (hv : lk l t = some u := by exact rfl) (hr : (yl u == some b) = false := by exact rfl)
    (hd : o.dst = some d := by exact rfl) (hN : Nat.blt d N = true := by exact rfl) : wU P N ops C Qa (o :: rest) l := wU_skip (wg hg hj hv hr) hd hN h
end
/-! ### Memory and calls -/
section
variable {b m f : Nat} {row row' cs : Array Value} {t ty : TypeId} {x y : Operand} {ds : TypeDesc} {z u : Value}
theorem sa (i : Nat) (S : St B w0 w fs) (hz : (P.info? ty).map (·.size) = some m) (h : ∀ w', St B w0 w' fs' → wL P N ops Q rest l w') (hw : o.guard = none := by exact rfl) (hd : o.dst = none := by exact rfl) (ho : o.op = .store ty x y := by exact rfl)
    (hx : ev l x = some (.pointer (some ⟨b, 0, none⟩)) := by exact rfl) (hy : ev l y = some v := by exact rfl) (hi : fs[i]? = some (.blk b row t) := by exact rfl) (hv : v.cells = cs := by exact rfl) (hm : cs.size = m := by exact rfl)
    (h1 : cs.toList.all (·.oneCell') = true := by exact rfl) (hr : Nat.ble m row.size = true := by exact rfl) (hs : row.size = cs.size := by exact rfl) (hf : SetAt (.blk b cs t) fs i fs' := by repeat' first | exact SetAt.z | apply SetAt.s) : wL P N ops Q (o :: rest) l w :=
  wL_st i S (wn hw) hd ho hx hy hi hv hz hm (oneAll h1) (by rw [Nat.zero_add]; exact Nat.le_of_ble_eq_true hr) (setAll_all hs) hf.eq h
theorem calg {vs : List Value} {R : Ending → World → Prop} {xs : List Operand} {ts : Array TypeId} {j tg : Nat} {bb : Bool} (heg : ∀ args w, (callFunc f args).run P w = .ok (.enter f args) w) (hc : Calls P f vs.toArray w R) (h : ∀ e w', R e w' → ∃ v, e = .returned v ∧ wL P N ops Q rest ((d, v) :: l) w')
    (hg : o.guard = some (j, bb) := by exact rfl) (hj : (ops[j]?).bind (·.dst) = some tg := by exact rfl) (hv : lk l tg = some u := by exact rfl) (hr : (yl u == some bb) = true := by exact rfl) (hd : o.dst = some d := by exact rfl) (hN : Nat.blt d N = true := by exact rfl)
    (ho : o.op = .call { callee := .value (.func f), args := xs.toArray, argTypes := ts } := by exact rfl) (hx : Evs l xs vs := by repeat' first | exact trivial | refine ⟨rfl, ?_⟩) : wL P N ops Q (o :: rest) l w := wL_call (wg hg hj hv hr) hd hN (e_call ho heg hx) hc h
theorem na {row : Array Value} (S : St B w0 w fs) (hz : ∀ w, (zeroValue t).run P w = .ok z w) (h : ∀ b w', St B w0 w' (.blk b row t :: fs) → wL P N ops Q rest ((d, .pointer (some ⟨b, 0, none⟩)) :: l) w') (hw : o.guard = none := by exact rfl) (hd : o.dst = some d := by exact rfl)
    (hN : Nat.blt d N = true := by exact rfl) (ho : o.op = .alloc t := by exact rfl) (hc : z.cells = row := by exact rfl) : wL P N ops Q (o :: rest) l w := wL_new (V := fun b => .pointer (some ⟨b, 0, none⟩)) S (wn hw) hd hN (d_alloc ho (hz w) hc) h
theorem cal {vs : List Value} {R : Ending → World → Prop} {xs : List Operand} {ts : Array TypeId} (heg : ∀ args w, (callFunc f args).run P w = .ok (.enter f args) w) (hc : Calls P f vs.toArray w R) (h : ∀ e w', R e w' → ∃ v, e = .returned v ∧ wL P N ops Q rest ((d, v) :: l) w')
    (hw : o.guard = none := by exact rfl) (hd : o.dst = some d := by exact rfl) (hN : Nat.blt d N = true := by exact rfl) (ho : o.op = .call { callee := .value (.func f), args := xs.toArray, argTypes := ts } := by exact rfl) (hx : Evs l xs vs := by repeat' first | exact trivial | refine ⟨rfl, ?_⟩) :
    wL P N ops Q (o :: rest) l w := wL_call (wn hw) hd hN (e_call ho heg hx) hc h
theorem cab {vs : List Value} {xs : List Operand} {ts : Array TypeId} (heg : ∀ args w, (callFunc f args).run P w = .ok (.enter f args) w) (S : St B w0 w fs) (hc : Calls P f vs.toArray w fun e w' => e = .returned v ∧ Below w.heap.size w w') (h : ∀ w', St B w0 w' fs → wL P N ops Q rest ((d, v) :: l) w')
    (hw : o.guard = none := by exact rfl) (hd : o.dst = some d := by exact rfl) (hN : Nat.blt d N = true := by exact rfl) (ho : o.op = .call { callee := .value (.func f), args := xs.toArray, argTypes := ts } := by exact rfl) (hx : Evs l xs vs := by repeat' first | exact trivial | refine ⟨rfl, ?_⟩) :
    wL P N ops Q (o :: rest) l w := wL_call (wn hw) hd hN (e_call ho heg hx) hc fun _ w' h' => ⟨v, h'.1, h w' (S.on h'.2)⟩
theorem pt {fn : Func} {R : Ending → World → Prop} {j : Nat} (hR : R (.returned (tupOf [v])) w) (hr : fn.results = [ResultVar.tmp j].toArray := by exact rfl) (h2 : lk l j = some v := by exact rfl) : wQ N (bodyPost P fn R) .ret l w := wQ_post (vs := [v]) hr ⟨h2, trivial⟩ hR
theorem fnw {fn : Func} {c : Code} {vs : List Value} {R : Ending → World → Prop} (N : Nat) (hf : P.funcs[f]? = some fn) (h : wC P N c (bodyPost P fn R) (ents 0 vs) w) (hb : fn.body = some c := by exact rfl) (hn : fn.ntmps = N := by exact rfl) (hN : Nat.ble vs.length N = true := by exact rfl) : Calls P f vs.toArray w R := calls_of_wC hf hb hn hN h
end
/-! ### Chains of steps of code -/
section
theorem x_tysr {c6 c8 : Code} {q3 : Exit → Act → World → Prop} {o4 : Operand} {i10 : Nat} {os9 : List Oper} (h : wL P N os9.toArray (Exit.then (c8.wp P q3) q3) os9 l w) (hc0 : ev l o4 = some (.bool true) := by exact rfl) : wQ N (Exit.then ((Code.cond o4 (Code.seq (Code.region i10 os9.toArray false) c8) c6).wp P q3) q3) .normal l w := wQ_then (wC_cond_t hc0 (wC_seq (wC_region h)))
theorem x_teh {q5 : Exit → Act → World → Prop} {k4 : Act → World → Prop} (h : wQ N q5 .ret l w) : wQ N (Exit.then (Code.ret.wp P (Exit.then k4 q5)) (Exit.then k4 q5)) .normal l w := wQ_then (wC_ret (wQ_then_ret h))
theorem x_tsr {c5 : Code} {q3 : Exit → Act → World → Prop} {i7 : Nat} {os6 : List Oper} (h : wL P N os6.toArray (Exit.then (c5.wp P q3) q3) os6 l w) : wQ N (Exit.then ((Code.seq (Code.region i7 os6.toArray false) c5).wp P q3) q3) .normal l w := wQ_then (wC_seq (wC_region h))
theorem x_tssr {c5 c7 : Code} {q3 : Exit → Act → World → Prop} {i9 : Nat} {os8 : List Oper} (h : wL P N os8.toArray (Exit.then (c7.wp P (Exit.then (c5.wp P q3) q3)) (Exit.then (c5.wp P q3) q3)) os8 l w) : wQ N (Exit.then ((Code.seq (Code.seq (Code.region i9 os8.toArray false) c7) c5).wp P q3) q3) .normal l w := wQ_then (wC_seq (wC_seq (wC_region h)))
theorem x_te {q3 : Exit → Act → World → Prop} (h : wQ N q3 .ret l w) : wQ N (Exit.then (Code.ret.wp P q3) q3) .normal l w := wQ_then (wC_ret h)
theorem x_tnktsr {c5 c10 : Code} {q8 : Exit → Act → World → Prop} {o4 : Operand} {i12 : Nat} {os11 : List Oper} (h : wL P N os11.toArray (Exit.then (c10.wp P q8) q8) os11 l w) (hc0 : ev l o4 = some (.bool false) := by exact rfl) : wQ N (Exit.then ((Code.cond o4 c5 Code.skip).wp P (Exit.then ((Code.seq (Code.region i12 os11.toArray false) c10).wp P q8) q8)) (Exit.then ((Code.seq (Code.region i12 os11.toArray false) c10).wp P q8) q8)) .normal l w := wQ_then (wC_cond_f hc0 (wC_skip (wQ_then (wC_seq (wC_region h)))))
theorem x_tnktssr {c5 c10 c12 : Code} {q8 : Exit → Act → World → Prop} {o4 : Operand} {i14 : Nat} {os13 : List Oper} (h : wL P N os13.toArray (Exit.then (c12.wp P (Exit.then (c10.wp P q8) q8)) (Exit.then (c10.wp P q8) q8)) os13 l w) (hc0 : ev l o4 = some (.bool false) := by exact rfl) : wQ N (Exit.then ((Code.cond o4 c5 Code.skip).wp P (Exit.then ((Code.seq (Code.seq (Code.region i14 os13.toArray false) c12) c10).wp P q8) q8)) (Exit.then ((Code.seq (Code.seq (Code.region i14 os13.toArray false) c12) c10).wp P q8) q8)) .normal l w := wQ_then (wC_cond_f hc0 (wC_skip (wQ_then (wC_seq (wC_seq (wC_region h))))))
theorem x_tr {q3 : Exit → Act → World → Prop} {i5 : Nat} {os4 : List Oper} (h : wL P N os4.toArray q3 os4 l w) : wQ N (Exit.then ((Code.region i5 os4.toArray false).wp P q3) q3) .normal l w := wQ_then (wC_region h)
theorem x_sr {c4 : Code} {q2 : Exit → Act → World → Prop} {i6 : Nat} {os5 : List Oper} (h : wL P N os5.toArray (Exit.then (c4.wp P q2) q2) os5 l w) : wC P N (Code.seq (Code.region i6 os5.toArray false) c4) q2 l w := wC_seq (wC_region h)
end
end
end Go.Proofs.Ytkjlafpafmihaaa

namespace Go.Proofs.Ytkjlafpafmihaaa
open Go.ChangeShapes Go.WideShapes Go.RowKit
theorem cellEq_self : ∀ {v : Value} {s : Sh}, Kd v s → cellEq v v = true
  | _, .at_ (.int k), ⟨n, rfl⟩ => by simp [cellEq]
  | _, .at_ .bool, ⟨n, rfl⟩ => by simp [cellEq]
  | _, .at_ .str, ⟨n, rfl⟩ => by simp [cellEq]
  | _, .sl _ _, h => h.elim
theorem cellsEq_self : ∀ {xs : List Value} {l : List Sh}, All2 Kd xs l → cellsEq xs xs = true
  | [], [], _ => rfl
  | x :: xs, s :: l, h => by
    rw [cellsEq, cellEq_self h.1, cellsEq_self h.2]
    rfl
  | [], _ :: _, h => h.elim
  | _ :: _, [], h => h.elim
section
variable {P : Program} {w : World} {t : TypeId} {xo yo : Operand} {l : List Sh} {xs : List Value}
theorem run_neq_self (w : World) (hf : flat P 30 t = some l) (ho : eqOk P 30 t = true) (ha : ∀ xs, mkV P t xs = .agg xs.toArray) (hx : All2 Kd xs l) : (binOp .neq t (.agg xs.toArray) (.agg xs.toArray)).run P w = .ok (.bool false) w := by
  have h := run_neq_cells (P := P) w hf ho ha hx hx
  rw [cellsEq_self hx] at h
  exact h
end
end Go.Proofs.Ytkjlafpafmihaaa

