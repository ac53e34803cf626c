/- Parts of proofs: lemmas on memory, on single functions and on the plain models; no condition of their own. -/
import Derived.Test.YtkjlafpafmihaaaRows
import Derived.WalkKit
import Derived.ProofKit
import Derived.OpenShut
import Derived.SizedLaws
import Derived.WalkSpells
import Derived.WalkLawsBesides
import Derived.Handy
import Derived.Deep.QuietTactic
import Derived.BigQuiet
import Derived.Lib.Hide
import Derived.Maps.AppendAt
import Derived.Deep.AppendLies
import Derived.RegionTactic
import Derived.OwnWalk
import Derived.Laws.Tables
import Derived.Deep.MidRow
import Derived.StillTailTactics
import Derived.OrdersHeld
import Derived.Deep.RegionHeld3
import Derived.Laws.IdiomCopy
import Derived.ChangeKeysEq
import Derived.Laws.BitsAllLaws
import Derived.Deep.DeepCutAuto
import Derived.Deep.CutRange
import Derived.Shelf.SlSortCmp.WholeK
import Derived.Shelf.SlSortCmp.NoneTotal
import Derived.Shelf.SlicesG.Cmp
import Derived.Shelf.SlGeneric
import Derived.Ground.SlsfProg
import Derived.Ground.SlgcProg
import Derived.Test.YtkjlafpafmihaaaG411632d36699
import Derived.Test.YtkjlafpafmihaaaG48f6c12ab48d
import Derived.Test.YtkjlafpafmihaaaG497b255c2441
import Derived.Test.YtkjlafpafmihaaaG4e172fb27d17
import Derived.Test.YtkjlafpafmihaaaG4eaabf97d977
import Derived.Test.YtkjlafpafmihaaaG570539d87647
import Derived.Test.YtkjlafpafmihaaaG5fc607994184
import Derived.Test.YtkjlafpafmihaaaG76ddf6bdedad
import Derived.Test.YtkjlafpafmihaaaG7ff4c8feaa3c
import Derived.Test.YtkjlafpafmihaaaG809794e4b789
import Derived.Test.YtkjlafpafmihaaaG924ec51911fe
import Derived.Test.YtkjlafpafmihaaaGc8683f30ddc5
import Derived.Test.YtkjlafpafmihaaaGc89f12b5a777
import Derived.Test.YtkjlafpafmihaaaGf03ab8b1ffd4
import Derived.Test.YtkjlafpafmihaaaGfa570c25a005
set_option linter.unusedVariables false
set_option linter.unusedSimpArgs false

namespace Go.Proofs.Ytkjlafpafmihaaa
section
open Go.Shelf Go.RowKit Go.Lib Go.Sort
def laySort_ren : Go.Shelf.Ren := ⟨fun | 6 => 178 | 15 => 191 | 14 => 190 | 28 => 202 | 29 => 203 | 20 => 194 | 21 => 195 | 22 => 196 | 23 => 197 | 24 => 198 | 25 => 199 | 26 => 200 | 27 => 201 | 46 => 205 | 47 => 206 | 48 => 207 | 49 => 208 | 50 => 209 | 57 => 210 | n => n, fun | 22 => 22 | 24 => 137 | 25 => 221 | 3 => 3 | 39 => 215 | 0 => 0 | 53 => 237 | 55 => 239 | 4 => 4 | 46 => 230 | 45 => 229 | 50 => 234 | 5 => 5 | 9 => 9 | 66 => 240 | 70 => 148 | 76 => 245 | 77 => 159 | n => n, fun | n => n⟩
theorem laySort : Go.Proofs.SlLaysF0.n6 Try.prog laySort_ren := {
  mixed := by kernel_rfl
  f6 := ⟨Try.f178.name, by decide, Try.func178.trans (congrArg some (by kernel_rfl))⟩
  f14 := ⟨Try.f190.name, by decide, Try.func190.trans (congrArg some (by kernel_rfl))⟩
  f15 := Try.func191.trans (congrArg some (by kernel_rfl))
  f20 := ⟨Try.f194.name, by decide, Try.func194.trans (congrArg some (by kernel_rfl))⟩
  f21 := ⟨Try.f195.name, by decide, Try.func195.trans (congrArg some (by kernel_rfl))⟩
  f22 := ⟨Try.f196.name, by decide, Try.func196.trans (congrArg some (by kernel_rfl))⟩
  f23 := ⟨Try.f197.name, by decide, Try.func197.trans (congrArg some (by kernel_rfl))⟩
  f24 := ⟨Try.f198.name, by decide, Try.func198.trans (congrArg some (by kernel_rfl))⟩
  f25 := ⟨Try.f199.name, by decide, Try.func199.trans (congrArg some (by kernel_rfl))⟩
  f26 := ⟨Try.f200.name, by decide, Try.func200.trans (congrArg some (by kernel_rfl))⟩
  f27 := ⟨Try.f201.name, by decide, Try.func201.trans (congrArg some (by kernel_rfl))⟩
  f28 := Try.func202.trans (congrArg some (by kernel_rfl))
  f29 := Try.func203.trans (congrArg some (by kernel_rfl))
  f46 := ⟨Try.f205.name, by decide, Try.func205.trans (congrArg some (by kernel_rfl))⟩
  f47 := Try.func206.trans (congrArg some (by kernel_rfl))
  f48 := Try.func207.trans (congrArg some (by kernel_rfl))
  f49 := ⟨Try.f208.name, by decide, Try.func208.trans (congrArg some (by kernel_rfl))⟩
  f50 := ⟨Try.f209.name, by decide, Try.func209.trans (congrArg some (by kernel_rfl))⟩
  f57 := ⟨Try.f210.name, by decide, Try.func210.trans (congrArg some (by kernel_rfl))⟩
  t0 := Try.underlying0
  a0 := Try.isAgg0
  z0 := Try.sizeOf0
  v0 := Try.zeroValue0
  t3 := Try.underlying3
  a3 := Try.isAgg3
  z3 := Try.sizeOf3
  v3 := Try.zeroValue3
  t4 := Try.underlying4
  a4 := Try.isAgg4
  z4 := Try.sizeOf4
  v4 := Try.zeroValue4
  t5 := Try.underlying5
  a5 := Try.isAgg5
  z5 := Try.sizeOf5
  v5 := Try.zeroValue5
  t9 := Try.underlying9
  a9 := Try.isAgg9
  z9 := Try.sizeOf9
  v9 := Try.zeroValue9
  t22 := Try.underlying22
  a22 := Try.isAgg22
  z22 := Try.sizeOf22
  v22 := Try.zeroValue22
  t25 := Try.underlying221
  a25 := Try.isAgg221
  z25 := Try.sizeOf221
  v25 := Try.zeroValue221
  t39 := Try.underlying215
  a39 := Try.isAgg215
  z39 := Try.sizeOf215
  v39 := Try.zeroValue215
  t45 := Try.underlying229
  a45 := Try.isAgg229
  z45 := Try.sizeOf229
  v45 := Try.zeroValue229
  t46 := Try.underlying230
  a46 := Try.isAgg230
  z46 := Try.sizeOf230
  v46 := Try.zeroValue230
  t50 := Try.underlying234
  a50 := Try.isAgg234
  z50 := Try.sizeOf234
  v50 := Try.zeroValue234
  t53 := Try.underlying237
  a53 := Try.isAgg237
  z53 := Try.sizeOf237
  v53 := Try.zeroValue237
  t55 := Try.underlying239
  a55 := Try.isAgg239
  z55 := Try.sizeOf239
  v55 := Try.zeroValue239
  t66 := Try.underlying240
  a66 := Try.isAgg240
  z66 := Try.sizeOf240
  v66 := Try.zeroValue240
  t70 := Try.underlying148
  a70 := Try.isAgg148
  z70 := Try.sizeOf148
  v70 := Try.zeroValue148
  t76 := Try.underlying245
  a76 := Try.isAgg245
  z76 := Try.sizeOf245
  v76 := Try.zeroValue245
  t77 := Try.underlying159
  a77 := Try.isAgg159
  z77 := Try.sizeOf159
  v77 := Try.zeroValue159 }
def layCmp_ren : Go.Shelf.Ren := ⟨fun | 5 => 192 | 7 => 204 | n => n, fun | 22 => 3 | 3 => 3 | 4 => 4 | n => n, fun | n => n⟩
theorem layCmp : Go.Proofs.SlLaysC2.n5 Try.prog layCmp_ren := {
  mixed := by kernel_rfl
  f5 := ⟨Try.f192.name, by decide, Try.func192.trans (congrArg some (by kernel_rfl))⟩
  f7 := ⟨Try.f204.name, by decide, Try.func204.trans (congrArg some (by kernel_rfl))⟩
  t3 := Try.underlying3
  a3 := Try.isAgg3
  z3 := Try.sizeOf3
  v3 := Try.zeroValue3
  t4 := Try.underlying4
  a4 := Try.isAgg4
  z4 := Try.sizeOf4
  v4 := Try.zeroValue4
  t22 := Try.underlying3
  a22 := Try.isAgg3
  z22 := Try.sizeOf3
  v22 := Try.zeroValue3 }
end
open Go.Shelf
open Go.ChangeShapes Go.WideShapes Go.ChangeAt Go.RowKit
open Go.Sort (HoldsK PermIn SortedIn SWO grow)
instance : Inhabited Msg := ⟨⟨0, 0⟩⟩
def cmpNo (x y : Msg) : Int := Lib.compareInt x.no y.no
theorem ltNo (x y : Msg) : ltOf cmpNo x y = decide (x.no < y.no) := by
  unfold ltOf cmpNo Lib.compareInt
  by_cases h1 : x.no < y.no
  · simp [h1]
  · by_cases h2 : y.no < x.no <;> simp [h1, h2]
theorem swoNo : SWO (ltOf cmpNo) where
  irrefl x := by rw [ltNo]; simp
  trans x y z h1 h2 := by rw [ltNo] at *; simp at *; omega
  ntrans x y z h1 h2 := by rw [ltNo] at *; simp at *; omega
set_option maxHeartbeats 1000000 in
theorem byNo_calls (x y : Msg) (W : World) : Calls Try.prog 179 #[.agg #[.int .i64 x.no, .int .i64 x.body], .agg #[.int .i64 y.no, .int .i64 y.body]] W fun e w' => e = .returned (.int .i64 (cmpNo x y)) ∧ ∃ q os', w' = grow (W.drewN q) os' := by
  have hcon := fun W' => AnyG.cmp_Compare_int layCmp x.no y.no W'
  change ∀ W', Calls Try.prog 192 _ _ _ at hcon
  unfold cmpNo
  generalize Lib.compareInt x.no y.no = r at hcon ⊢
  go_enter Try.func179, Try.ntmps179
  go_wp2_with (go_at_call 192; refine (hcon _).mono ?_; rintro e w' ⟨rfl, rfl⟩)
  go_ret
  exact ⟨rfl, 0, _, by rw [Go.Sort.alloc_eq_grow, Go.Sort.alloc_eq_grow, Go.Sort.grow_grow]; rfl⟩
theorem isAggM : ∀ w, (isAgg 137).run Try.prog w = .ok true w := by
  intro w
  simp [isAgg, run_underlying Try.underlying137, Sem.run_bind, Result.andThen]
theorem sizeOfM : ∀ w, (Go.sizeOf 137).run Try.prog w = .ok 2 w := by
  intro w
  obtain ⟨z, hq, hs⟩ : ∃ z, Try.prog.info? 137 = some z ∧ z.size = 2 := by
    have h := inf137
    cases hi : Try.prog.info? 137 with
    | none => simp [hi] at h
    | some z => exact ⟨z, rfl, by simpa [hi] using h⟩
  simp [sizeOf, typeInfo, hq, hs, Sem.run_bind, Result.andThen]
def ascNo (l : List Msg) : Prop := l.Pairwise fun a b => a.no ≤ b.no
set_option maxRecDepth 100000 in
theorem SortM_calls (A : Option Addr) (c : Nat) (rs : List Msg) (w : World) {B : Nat} (ho : w.ownsRow B 137 2 (.slice A rs.length c) rs.length (rs.flatMap Msg.cells)) (hl : rs.length ≤ 1000000) :
    Calls Try.prog 178 #[.slice A rs.length c, .func (.func 179) #[] #[]] w fun e w' => e = .returned (.tuple #[]) ∧ ∃ d : List Msg, d.Perm rs ∧ ascNo d ∧
      w'.ownsRow B 137 2 (.slice A rs.length c) rs.length (d.flatMap Msg.cells) ∧ w.grownBy w' (Value.slice A rs.length c).ownBlock := by
  rcases Nat.eq_zero_or_pos rs.length with h0 | h0
  · have e0 : rs = [] := List.length_eq_zero_iff.1 h0
    subst e0
    refine (AnyF.slices_SortFunc_none laySort A c (.func (.func 179) #[] #[]) w).mono ?_
    rintro e w' ⟨rfl, rfl⟩
    exact ⟨rfl, [], List.Perm.refl _, List.Pairwise.nil, ho, ⟨rfl, rfl, rfl, Nat.le_refl _, fun _ _ _ => rfl⟩⟩
  · obtain ⟨g, rfl⟩ := own_some ho h0
    have hg : g < w.heap.size := own_size ho g rfl
    have hH := own_holds (enc := Msg.cells) (k := 2) (fun _ => rfl) ho rfl
    have hcon := AnyQ.slices_SortFunc laySort 2 isAggM sizeOfM Msg.cells (fun _ => rfl) (fun x v hv => by simp [Msg.cells] at hv; rcases hv with rfl | rfl <;> rfl) cmpNo swoNo 179 #[] g 0 c rs.toArray w en179 (fun _ _ _ _ x y => byNo_calls x y _) hH hg (by simp; omega)
    change Calls Try.prog 178 _ _ _ at hcon
    rw [List.size_toArray] at hcon
    refine hcon.mono ?_
    rintro e w' ⟨rfl, d', m, os, hp, hs, rfl⟩
    obtain ⟨p1, _, p3⟩ := hp
    replace p1 : d'.size = rs.length := p1
    obtain ⟨q1, q2⟩ := own_sorted (enc := Msg.cells) (k := 2) (d' := d') (m := m) (os := os) (fun _ => rfl) ho p1
    refine ⟨rfl, d'.toList, ?_, ?_, q1, q2⟩
    · have e1 : d'.extract 0 rs.length = d' := by rw [← p1]; exact Array.extract_size
      have e2 : rs.toArray.extract 0 rs.length = rs.toArray := by simp
      rw [e1, e2] at p3
      simpa using p3
    · unfold ascNo
      rw [List.pairwise_iff_getElem]
      intro i j hi hj hij
      rw [Array.length_toList] at hi hj
      have h := hs i j (Nat.zero_le _) hij (by omega)
      rw [ltNo, getElem!_pos d' j hj, getElem!_pos d' i hi] at h
      simp only [Array.getElem_toList]
      simpa using h
theorem putMsg_perm (m : Msg) : ∀ l : List Msg, (putMsg m l).Perm (m :: l)
  | [] => List.Perm.refl _
  | x :: l => by
    unfold putMsg
    split
    · exact List.Perm.refl _
    · exact ((putMsg_perm m l).cons x).trans (List.Perm.swap m x l)
theorem putMsg_asc {m : Msg} : ∀ {l : List Msg}, ascNo l → ascNo (putMsg m l)
  | [], _ => by simp [putMsg, ascNo]
  | x :: l, h => by
    obtain ⟨h1, h2⟩ := List.pairwise_cons.1 h
    unfold putMsg
    split
    · rename_i hlt
      refine List.pairwise_cons.2 ⟨fun y hy => ?_, h⟩
      rcases List.mem_cons.1 hy with e | e
      · rw [e]; omega
      · have := h1 y e; omega
    · rename_i hlt
      refine List.pairwise_cons.2 ⟨fun y hy => ?_, putMsg_asc h2⟩
      rcases List.mem_cons.1 ((putMsg_perm m l).mem_iff.1 hy) with e | e
      · rw [e]; omega
      · exact h1 y e
theorem fold_perm : ∀ (ls : List Ls) (rs : List Msg), (ls.foldl (fun l x => putMsg x.msg l) rs).Perm (rs ++ ls.map (·.msg))
  | [], rs => by simp
  | x :: ls, rs => by
    rw [List.foldl_cons, List.map_cons]
    refine (fold_perm ls (putMsg x.msg rs)).trans ?_
    refine ((putMsg_perm x.msg rs).append_right _).trans ?_
    rw [List.cons_append]
    exact List.perm_middle.symm
theorem fold_asc : ∀ (ls : List Ls) {rs : List Msg}, ascNo rs → ascNo (ls.foldl (fun l x => putMsg x.msg l) rs)
  | [], _, h => h
  | _ :: ls, _, h => fold_asc ls (putMsg_asc h)
theorem end_list {rs d : List Msg} {ls : List Ls} (hp : d.Perm (rs ++ ls.map (·.msg))) (ha : ascNo d) (hA : ascNo rs) (hN : (nosOf rs ls).Nodup) : d = ls.foldl (fun l x => putMsg x.msg l) rs := by
  have hF := fold_perm ls rs
  have hnd : ((rs ++ ls.map (·.msg)).map (·.no)).Nodup := by
    unfold nosOf at hN
    rw [List.map_append, List.map_map]
    exact hN
  refine List.Perm.eq_of_pairwise (le := fun a b : Msg => a.no ≤ b.no) (fun a b ha' hb' h1 h2 => ?_) ha (fold_asc ls hA) (hp.trans hF.symm)
  have m1 := hp.mem_iff.1 ha'
  have m2 := hF.mem_iff.1 hb'
  have e : a.no = b.no := by omega
  have := List.pairwise_map.1 hnd
  obtain ⟨i, hi, e1⟩ := List.getElem_of_mem m1
  obtain ⟨j, hj, e2⟩ := List.getElem_of_mem m2
  rw [List.pairwise_iff_getElem] at this
  rcases Nat.lt_trichotomy i j with h | h | h
  · exact absurd (by rw [e1, e2]; exact e) (this i j hi hj h)
  · subst h; rw [← e1, ← e2]
  · exact absurd (by rw [e1, e2]; exact e.symm) (this j i hj hi h)
end Go.Proofs.Ytkjlafpafmihaaa

namespace Go.Proofs.Ytkjlafpafmihaaa
open Go.ChangeShapes Go.WideShapes Go.RowKit

def zeroQd : Qd := ⟨0, 0, 0, [], [], zeroWs⟩
def Qd.row (Q : Qd) (A1 : Option Addr) (c1 : Nat) (A2 : Option Addr) (c2 : Nat) : Array Value := qRow Q.ep Q.nx Q.gv (.slice A1 Q.ready.length c1) (.slice A2 Q.leases.length c2) Q.ws
noncomputable def Qd.fault (Q : Qd) : Int := queueFault Q.ep Q.nx Q.gv Q.ready Q.leases Q.ws
def stepM (Q : Qd) (e : Ev) : Qd × Ans × Bool :=
  if e.kind = 1 then pubM Q e.producer.toNat e.id e.body else if e.kind = 2 then recM Q else if e.kind = 3 then ackM Q e.hepoch e.hno else endM Q
noncomputable def doM (Q : Qd) (e : Ev) : Qd × Ans × Bool × Int :=
  if Q.fault ≠ 0 then (zeroQd, ans0, false, Q.fault) else if evFault e ≠ 0 then (zeroQd, ans0, false, evFault e) else ((stepM Q e).1, (stepM Q e).2.1, (stepM Q e).2.2, 0)
/-- A queue whose two slices are only read from now on, both in memory made behind B. -/
def QdoPost (w : World) (r : Qd × Ans × Bool × Int) (e : Ending) (w' : World) : Prop := ∃ A1 c1 A2 c2, e = .returned (.tuple #[.agg (qRow r.1.ep r.1.nx r.1.gv (.slice A1 r.1.ready.length c1) (.slice A2 r.1.leases.length c2) r.1.ws), r.2.1.val, .bool r.2.2.1, .int .i64 r.2.2.2]) ∧
  St w.heap.size w w' [.rdo 2 A1 r.1.ready.length (r.1.ready.flatMap Msg.cells), .rdo 4 A2 r.1.leases.length (r.1.leases.flatMap Ls.cells)]
section
variable {ep nx gv p : Int} {rs : List Msg} {ls : List Ls} {W : Wins}
theorem qf_zero (h : queueFault ep nx gv rs ls W = 0) : rngQ ep nx gv rs ls ∧ winsOk W ∧ rdyFrom nx (-1) rs = true ∧ lsFrom ep nx gv (-1) ls = true ∧ (nosOf rs ls).Nodup := by
  unfold queueFault at h
  split at h
  · cases h
  · split at h
    · cases h
    · split at h
      · rename_i h1 h2 h3
        exact ⟨Classical.not_not.1 h1, Classical.not_not.1 h2, h3⟩
      · cases h
theorem rdy_lt : ∀ {rs : List Msg} {p : Int}, rdyFrom nx p rs = true → (∀ x ∈ rs, p < x.no) ∧ rs.Pairwise fun a b => a.no < b.no
  | [], _, _ => ⟨fun x hx => by simp at hx, List.Pairwise.nil⟩
  | m :: r, p, h => by
    simp only [rdyFrom, Bool.and_eq_true, decide_eq_true_eq] at h
    obtain ⟨⟨_, h1⟩, h2⟩ := h
    obtain ⟨h3, h4⟩ := rdy_lt h2
    refine ⟨fun x hx => ?_, List.pairwise_cons.2 ⟨h3, h4⟩⟩
    rcases List.mem_cons.1 hx with rfl | hx
    · exact h1
    · exact Int.lt_trans h1 (h3 x hx)
theorem rdy_asc (h : rdyFrom nx (-1) rs = true) : ascNo rs := (rdy_lt h).2.imp fun h => Int.le_of_lt h
theorem ls_lt : ∀ {ls : List Ls} {p : Int}, lsFrom ep nx gv p ls = true → (∀ x ∈ ls, x.hep = ep ∧ p < x.hno) ∧ ls.Pairwise fun a b => a.hno < b.hno
  | [], _, _ => ⟨fun x hx => by simp at hx, List.Pairwise.nil⟩
  | m :: r, p, h => by
    simp only [lsFrom, lsOk, Bool.and_eq_true, decide_eq_true_eq] at h
    obtain ⟨⟨_, h0, h1, _⟩, h2⟩ := h
    obtain ⟨h3, h4⟩ := ls_lt h2
    refine ⟨fun x hx => ?_, List.pairwise_cons.2 ⟨fun x hx => (h3 x hx).2, h4⟩⟩
    rcases List.mem_cons.1 hx with rfl | hx
    · exact ⟨h0, h1⟩
    · exact ⟨(h3 x hx).1, Int.lt_trans h1 (h3 x hx).2⟩
theorem ls_hep (h : lsFrom ep nx gv (-1) ls = true) : ∀ x ∈ ls, x.hep = ep := fun x hx => ((ls_lt h).1 x hx).1
theorem ls_inj (h : lsFrom ep nx gv (-1) ls = true) : ∀ (i j : Nat) (a b : Ls), ls[i]? = some a → ls[j]? = some b → a.hno = b.hno → i = j := by
  have hp := (ls_lt h).2
  rw [List.pairwise_iff_getElem] at hp
  intro i j a b ha hb e
  obtain ⟨hi, rfl⟩ := List.getElem?_eq_some_iff.1 ha
  obtain ⟨hj, rfl⟩ := List.getElem?_eq_some_iff.1 hb
  rcases Nat.lt_trichotomy i j with h1 | h1 | h1
  · have := hp i j hi hj h1; omega
  · exact h1
  · have := hp j i hj hi h1; omega
theorem ev_kind {e : Ev} (h : evFault e = 0) : 1 ≤ e.kind ∧ e.kind ≤ 4 := by
  unfold evFault at h
  split at h
  · cases h
  · rename_i h1
    exact Classical.not_not.1 h1
theorem ev_prod {e : Ev} (h : evFault e = 0) : 0 ≤ e.producer ∧ e.producer ≤ 3 := by
  unfold evFault at h
  split at h
  · cases h
  · split at h
    · cases h
    · rename_i h1 h2
      split at h
      · cases h
      · split at h
        · cases h
        · rename_i h3 h4
          by_cases hk : e.kind = 1
          · have h5 := Classical.not_not.1 (fun h6 => h2 ⟨hk, h6⟩)
            simp only [Bool.and_eq_true, inR, decide_eq_true_eq] at h5
            omega
          · have h5 := Classical.not_not.1 (fun h6 => h4 ⟨hk, h6⟩)
            omega
end
section
variable {Q : Qd} {e : Ev}
theorem do_qf (h : Q.fault ≠ 0) : doM Q e = (zeroQd, ans0, false, Q.fault) := if_pos h
theorem do_ef (h : Q.fault = 0) (h1 : evFault e ≠ 0) : doM Q e = (zeroQd, ans0, false, evFault e) := by
  unfold doM; rw [if_neg (fun h2 => h2 h), if_pos h1]
theorem do_ok (h : Q.fault = 0) (h1 : evFault e = 0) : doM Q e = ((stepM Q e).1, (stepM Q e).2.1, (stepM Q e).2.2, 0) := by
  unfold doM; rw [if_neg (fun h2 => h2 h), if_neg (fun h2 => h2 h1)]
end
end Go.Proofs.Ytkjlafpafmihaaa

namespace Go.Proofs.Ytkjlafpafmihaaa
open Go.ChangeShapes Go.WideShapes Go.RowKit

noncomputable def tellGo : Qd → List Ans → List Ev → Option (Qd × List Ans)
  | Q, an, [] => some (Q, an)
  | Q, an, e :: r => if (doM Q e).2.2.2 = 0 ∧ (doM Q e).2.2.1 = true then tellGo (doM Q e).1 (an ++ [(doM Q e).2.1]) r else none
noncomputable def tellM (l : List Ev) : Qd × List Ans × Int :=
  if 2000 < l.length then (zeroQd, [], 1) else match tellGo zeroQd [] l with
    | some r => (r.1, r.2, 0)
    | none => (zeroQd, [], 3)
section
variable {Q : Qd} {an : List Ans} {l : List Ev} {e : Ev} {k : Nat}
theorem tellGo_step (h : l[k]? = some e) (h0 : (doM Q e).2.2.2 = 0) (h1 : (doM Q e).2.2.1 = true) : tellGo Q an (l.drop k) = tellGo (doM Q e).1 (an ++ [(doM Q e).2.1]) (l.drop (k + 1)) := by
  obtain ⟨hk, hm⟩ := List.getElem?_eq_some_iff.1 h
  rw [List.drop_eq_getElem_cons hk, hm, tellGo, if_pos ⟨h0, h1⟩]
theorem tellGo_stop (h : l[k]? = some e) (h0 : ¬ ((doM Q e).2.2.2 = 0 ∧ (doM Q e).2.2.1 = true)) : tellGo Q an (l.drop k) = none := by
  obtain ⟨hk, hm⟩ := List.getElem?_eq_some_iff.1 h
  rw [List.drop_eq_getElem_cons hk, hm, tellGo, if_neg h0]
theorem tellGo_end (h : l.length ≤ k) : tellGo Q an (l.drop k) = some (Q, an) := by
  rw [List.drop_eq_nil_of_le h]
  rfl
theorem tellM_big (h : 2000 < l.length) : tellM l = (zeroQd, [], 1) := if_pos h
theorem tellM_ok {r : Qd × List Ans} (h : ¬ 2000 < l.length) (h1 : tellGo zeroQd [] l = some r) : tellM l = (r.1, r.2, 0) := by
  unfold tellM; rw [if_neg h, h1]
theorem tellM_no (h : ¬ 2000 < l.length) (h1 : tellGo zeroQd [] l = none) : tellM l = (zeroQd, [], 3) := by
  unfold tellM; rw [if_neg h, h1]
theorem tellM_len (h : (tellM l).2.2 = 0) : l.length ≤ 2000 := by
  unfold tellM at h
  split at h
  · cases h
  · omega
theorem step_len : (stepM Q e).1.ready.length + (stepM Q e).1.leases.length ≤ Q.ready.length + Q.leases.length + 1 := by
  unfold stepM
  split
  · unfold pubM; split; · dsimp only; omega
    split; · dsimp only; omega
    split; · dsimp only; omega
    simp only [List.length_append, List.length_cons, List.length_nil]; omega
  · split
    · obtain ⟨ep, nx, gv, rs, ls, W⟩ := Q
      cases rs with
      | nil => simp [recM]
      | cons m r => simp only [recM]; split <;> simp <;> omega
    · split
      · unfold ackM; split; · dsimp only; omega
        split; · dsimp only; omega
        have := List.length_filter_le (fun x : Ls => decide (x.hno ≠ e.hno)) Q.leases
        simp only
        omega
      · unfold endM; split; · dsimp only; omega
        have h := (fold_perm Q.leases Q.ready).length_eq
        rw [List.length_append, List.length_map] at h
        simp only [List.length_nil]
        omega
theorem do_len (h : (doM Q e).2.2.2 = 0) : (doM Q e).1.ready.length + (doM Q e).1.leases.length ≤ 501 := by
  by_cases h0 : Q.fault = 0
  · by_cases h1 : evFault e = 0
    · rw [do_ok h0 h1]
      have h2 := (qf_zero h0).1
      unfold rngQ at h2
      have := step_len (Q := Q) (e := e)
      simp only
      omega
    · rw [do_ef h0 h1]; simp [zeroQd]
  · rw [do_qf h0]; simp [zeroQd]
end
end Go.Proofs.Ytkjlafpafmihaaa

namespace Go.Proofs.Ytkjlafpafmihaaa
open Go.ChangeShapes Go.WideShapes Go.RowKit

structure Brt where
  role : Int
  ep : Int
  fr : Int
  tg : Int
  rd : Int
  evs : List Ev
  deriving DecidableEq
def zeroB : Brt := ⟨0, 0, 0, 0, 0, []⟩
def brkEv : Ev := ⟨4, 0, 0, 0, 0, 0⟩
def shapeB (b : Brt) : Prop := (b.role = 0 ∧ 0 ≤ b.ep ∧ b.ep ≤ 1048576 ∧ b.fr = 0 ∧ b.tg = 0 ∧ b.rd = 0 ∧ b.evs.length = 0) ∨ (1 ≤ b.ep ∧ b.ep ≤ 1048576 ∧
  ((b.role = 1 ∧ b.fr = 0 ∧ b.tg = 0 ∧ b.rd = 0) ∨ (b.role = 2 ∧ b.fr = 0 ∧ 0 ≤ b.tg ∧ b.tg < 5 ∧ 0 ≤ b.rd ∧ b.rd ≤ 4) ∨ (b.role = 3 ∧ b.fr = 0 ∧ 0 ≤ b.tg ∧ b.tg < 5 ∧ b.rd = 0) ∨ (b.role = 4 ∧ 0 ≤ b.fr ∧ b.fr < 5 ∧ b.tg = 0 ∧ b.rd = 0)))
instance (b : Brt) : Decidable (shapeB b) := by unfold shapeB; exact inferInstance
open Classical in
noncomputable def brtFault (b : Brt) : Int := if shapeB b ∧ (tellM b.evs).2.2 = 0 then 0 else 6
section
variable {b : Brt}
theorem bf_ok (h : shapeB b) (h1 : (tellM b.evs).2.2 = 0) : brtFault b = 0 := if_pos ⟨h, h1⟩
theorem bf_shape (h : ¬ shapeB b) : brtFault b = 6 := if_neg fun h1 => h h1.1
theorem bf_tell (h : ¬ (tellM b.evs).2.2 = 0) : brtFault b = 6 := if_neg fun h1 => h h1.2
theorem bf_zero (h : brtFault b = 0) : shapeB b ∧ (tellM b.evs).2.2 = 0 := by
  unfold brtFault at h
  split at h
  · assumption
  · cases h
end
/-- P7.3. -/
noncomputable def makeM (b : Brt) (ep : Int) : Brt × Int :=
  if brtFault b ≠ 0 then (zeroB, brtFault b) else if ¬ (1 ≤ ep ∧ ep ≤ 1048576) then (zeroB, 2) else if b.role ≠ 0 then (zeroB, 8) else if ep ≤ b.ep then (zeroB, 15) else (⟨1, ep, 0, 0, 0, []⟩, 0)
/-- P7.7. -/
noncomputable def beginM (b : Brt) (ep fr : Int) : Brt × Int :=
  if brtFault b ≠ 0 then (zeroB, brtFault b) else if ¬ (1 ≤ ep ∧ ep ≤ 1048576 ∧ 0 ≤ fr ∧ fr ≤ 4) then (zeroB, 2) else if b.role ≠ 0 ∧ b.role ≠ 4 then (zeroB, 8)
  else if b.role = 4 ∧ b.ep = ep ∧ b.fr = fr then (b, 0) else if ep ≤ b.ep then (zeroB, 15) else (⟨4, ep, fr, 0, 0, []⟩, 0)
/-- P7.8. -/
noncomputable def importM (b : Brt) (ep at_ : Int) (l : List Ev) (last : Bool) : Brt × Int :=
  if brtFault b ≠ 0 then (zeroB, brtFault b) else if b.role ≠ 4 then (zeroB, 7) else if b.ep ≠ ep then (zeroB, 15) else if ¬ (0 ≤ at_ ∧ at_ ≤ b.evs.length) then (zeroB, 2)
  else if ¬ (b.evs.drop at_.toNat).take l.length = l.take (b.evs.length - at_.toNat) then (zeroB, 3)
  else if last = true ∧ at_.toNat + l.length < b.evs.length then (zeroB, 3)
  else if brtFault (if last = true then ⟨1, ep, 0, 0, 0, b.evs ++ l.drop (b.evs.length - at_.toNat) ++ [brkEv]⟩ else { b with evs := b.evs ++ l.drop (b.evs.length - at_.toNat) }) ≠ 0 then (zeroB, 3)
  else (if last = true then ⟨1, ep, 0, 0, 0, b.evs ++ l.drop (b.evs.length - at_.toNat) ++ [brkEv]⟩ else { b with evs := b.evs ++ l.drop (b.evs.length - at_.toNat) }, 0)
/-- P7.9. -/
noncomputable def forgetM (b : Brt) (ep : Int) : Brt × Int :=
  if brtFault b ≠ 0 then (zeroB, brtFault b) else if b.role ≠ 3 then (zeroB, 7) else if ep ≤ b.ep then (zeroB, 15) else (⟨0, b.ep, 0, 0, 0, []⟩, 0)
/-- What a leaf of a berth's walk says of its model. -/
theorem lfB {α : Type} {a b : α} (h : a = b := by (repeat' (first | rfl | omega | split)) <;> (simp only [Prod.mk.injEq, Brt.mk.injEq, and_true, true_and, and_self]; omega)) : a = b := h
end Go.Proofs.Ytkjlafpafmihaaa

namespace Go.Proofs.Ytkjlafpafmihaaa
open Go.ChangeShapes Go.WideShapes Go.RowKit

set_option maxRecDepth 100000 in
set_option maxHeartbeats 2000000 in
theorem end_calls {B g k c1 c2 : Nat} {w0 w : World} {fs : List Fact} {A1 A2 : Option Addr} {rs : List Msg} {ls : List Ls} {W : Wins} {ep nx gv kd id bd he hn : Int} (S : St B w0 w (.blk g (qRow ep nx gv (.slice A1 rs.length c1) (.slice A2 ls.length c2) W) 190 :: .own 137 2 (.slice A1 rs.length c1) rs.length ((rs).flatMap Msg.cells) :: .own 141 4 (.slice A2 ls.length c2) ls.length ((ls).flatMap Ls.cells) :: fs)) (hk : k < 4) (hlen : rs.length + ls.length ≤ 500) (hnx : 0 ≤ nx ∧ nx ≤ 1073741824) (hgv : 0 ≤ gv ∧ gv ≤ 1073741824) (hep : 0 ≤ ep ∧ ep ≤ 1048576) (hA : ascNo rs) (hN : (nosOf rs ls).Nodup) :
    Calls Try.prog 148 #[.pointer (some ⟨g, 0, none⟩), .agg #[.int .i64 kd, .int .i64 ((k : Nat) : Int), .int .i64 id, .int .i64 bd, .int .i64 he, .int .i64 hn]] w (DeskPost B w0 g fs (endM ⟨ep, nx, gv, rs, ls, W⟩)) := by
 refine calls_of_wC (N := 63) (vs := [.pointer (some ⟨g, 0, none⟩), .agg #[.int .i64 kd, .int .i64 ((k : Nat) : Int), .int .i64 id, .int .i64 bd, .int .i64 he, .int .i64 hn]]) Try.func148 rfl rfl rfl ?_
 refine cw [0, 1] ?_
 refine x_sr (nb (row := #[.int .i64 kd, .int .i64 ((k : Nat) : Int), .int .i64 id, .int .i64 bd, .int .i64 he, .int .i64 hn]) S ?_); intro b1 w2 S3; clear S
 refine na (row := #[.int .i64 0, .int .i64 0, .int .i64 0, .int .i64 0]) S3 Try.zeroValue93 ?_; intro b4 w5 S6; clear S3
 refine va ?_
 refine qk [0, 4, 5] ?_
 refine x_tssr (vm ?_)
 refine vv (y_nil rfl rfl trivial) ?_
 refine vv (yfa 0 fa190_0) ?_
 refine vv (yfa 0 fa29_0) ?_
 refine vv (y_load rfl rfl (r_load Try.underlying3 rfl (St.cl 2 S6 rfl qRow_g0))) ?_
 by_cases h1 : ep = 1048576
 ·refine vv (yeqlT h1) ?_
  refine qk [0, 4, 5, 13] ?_
  refine x_tysr (vv (v := .agg #[.int .i64 14, .int .i64 0, .int .i64 0, .int .i64 0]) (y_build (vs := [(0, .int .i64 14)]) rfl ⟨rfl, rfl, trivial⟩ (by kernel_rfl)) ?_)
  refine sa 0 S6 inf93 ?_; intro w7 S8; clear S6
  refine va ?_
  refine qk [4, 5] ?_
  refine x_teh (pc 0 S8 Try.underlying93 inf93 ?_)
  have S9 : St B w0 w7 (_ :: _ :: _ :: fs) := (St.del 0 (St.del 1 S8)); clear S8
  have S10 := S9.sealAll 1 rfl; clear S9
  change St _ _ _ (_ :: (.rdo 2 A1 rs.length ((rs).flatMap Msg.cells)) :: _ :: fs) at S10
  have S11 := S10.sealAll 2 rfl; clear S10
  change St _ _ _ (_ :: _ :: (.rdo 4 A2 ls.length ((ls).flatMap Ls.cells)) :: fs) at S11
  rw [end_full h1]
  refine ⟨rfl, A1, c1, A2, c2, ?_⟩
  dsimp only
  exact S11
 ·refine vv (yeqlF h1) ?_
  refine qk [0, 4, 5, 13] ?_
  refine x_tnktssr (vm ?_)
  refine vv (y_nil rfl rfl trivial) ?_
  refine vv (yfa 0 fa190_0) ?_
  refine vv (yfa 4 fa29_4) ?_
  refine vv (y_load rfl rfl (r_load Try.underlying23 rfl (St.cl 2 S6 rfl qRow_g4))) ?_
  refine vv (v := .int .i64 ((ls.length : Nat) : Int)) (y_builtin (vs := [.slice A2 ls.length c2]) rfl ⟨rfl, trivial⟩ fun _ => r_len rfl Try.underlying23) ?_
  refine vm ?_
  refine qk [0, 4, 5, 19, 20, 21] ?_
  refine wQ_then (wC_block (wC_loop (X := Nat × (Option Addr) × Nat) (fun xv => [(0, .pointer (some ⟨g, 0, none⟩)), (4, .pointer (some ⟨b4, 0, none⟩)), (5, .bool false), (19, .slice A2 ls.length c2), (20, .int .i64 ((ls.length : Nat) : Int)), (21, .int .i64 ((xv.1 : Nat) : Int))]) (fun xv wr => (xv.1 ≤ ls.length) ∧ St B w0 wr ((.blk b4 #[.int .i64 0, .int .i64 0, .int .i64 0, .int .i64 0] 93) :: (.blk b1 #[.int .i64 kd, .int .i64 ((k : Nat) : Int), .int .i64 id, .int .i64 bd, .int .i64 he, .int .i64 hn] 37) :: (.blk g (qRow ep nx gv (.slice xv.2.1 (rs.length + xv.1) xv.2.2) (.slice A2 ls.length c2) W) 190) :: (.own 137 2 (.slice xv.2.1 (rs.length + xv.1) xv.2.2) (rs.length + xv.1) ((rs ++ (ls.take xv.1).map (·.msg)).flatMap Msg.cells)) :: (.own 141 4 (.slice A2 ls.length c2) ls.length ((ls).flatMap Ls.cells)) :: fs)) (fun xv => ls.length - xv.1) (0, A1, c1) ?_ ?_ ?_))
  ·exact ⟨Nat.zero_le _, by dsimp only; rw [show rs ++ (ls.take 0).map (·.msg) = rs by simp]; exact S6⟩
  ·exact ⟨rfl, rfl, rfl, rfl, rfl, rfl, trivial⟩
  ·rintro ⟨q, Ab, cb⟩ w12 ⟨hi14, S13⟩
   try dsimp only at hi14 S13; clear S6
   refine cw [0, 4, 5, 19, 20, 21] ?_
   refine x_sr ?_
   by_cases h15 : ((q : Nat) : Int) < ((ls.length : Nat) : Int)
   ·refine vv (ylssT h15) ?_
    refine wL_nil (wQ_then (wC_seq (wC_cond_t rfl (wC_skip (wQ_then (wC_seq (wC_block (wC_seq (wC_region ?_)))))))))
    obtain ⟨b16, o17, rfl⟩ := Rd.addr (St.ord 4 S13 rfl) (by omega)
    obtain ⟨x18, hx19⟩ := elm q (St.ord 4 S13 rfl) (by omega)
    refine vv (v := .pointer (some ⟨b16, o17 + q * 4, none⟩)) (y_indexAddr rfl rfl rfl (r_indexAddr q Try.underlying23 inf141 (by omega) (by omega))) ?_
    refine vv (y_load rfl rfl (r_load_agg (cs := Ls.cells x18) Try.underlying141 rfl inf141 rfl (Rd.rg2 (St.ord 4 S13 rfl) (fun _ _ h => fm_get (enc := Ls.cells) (sz := 4) (fun _ => rfl) hx19 h)))) ?_
    refine na (row := #[.int .i64 0, .int .i64 0, .int .i64 0, .int .i64 0]) S13 Try.zeroValue141 ?_; intro b20 w21 S22; clear S13
    refine sa 0 S22 inf141 ?_; intro w23 S24; clear S22
    refine qk [0, 4, 5, 19, 20, 21, 7] ?_
    refine wQ_then ?_
    have S25 := S24.drew; clear S24
    refine wC_head (C := fun w' => St B w0 w' ((.blk b20 #[.int .i64 x18.hep, .int .i64 x18.hno, .int .i64 x18.msg.no, .int .i64 x18.msg.body] 141) :: (.blk b4 #[.int .i64 0, .int .i64 0, .int .i64 0, .int .i64 0] 93) :: (.blk b1 #[.int .i64 kd, .int .i64 ((k : Nat) : Int), .int .i64 id, .int .i64 bd, .int .i64 he, .int .i64 hn] 37) :: (.blk g (qRow ep nx gv (.slice Ab (rs.length + q) cb) (.slice (some ⟨b16, o17, none⟩) ls.length c2) W) 190) :: (.own 141 4 (.slice (some ⟨b16, o17, none⟩) ls.length c2) ls.length ((ls).flatMap Ls.cells)) :: fs)) (m := 14) (listed := #[false, false, false, false, false, false, false, false, false, false, false, false, false, false]) 10 mixed rfl rfl ?_
    refine gk (v := .pointer (some ⟨g, 0, none⟩)) 0 rfl (St.del 4 S25) (fun _ _ => ym) ?_
    refine gk (v := .pointer (some ⟨g, 0, none⟩)) 1 rfl (St.del 4 S25) (fun _ _ => ym) ?_
    refine gk (v := .pointer (some ⟨g, 0, none⟩)) 2 rfl (St.del 4 S25) (fun _ _ => y_nil rfl rfl trivial) ?_
    refine gk (v := .pointer (some ⟨g, 0, none⟩)) 3 rfl (St.del 4 S25) (fun _ _ => yfa _ fa190_0) ?_
    refine gk (v := .pointer (some ⟨g, 3, none⟩)) 4 rfl (St.del 4 S25) (fun _ _ => yfa _ fa29_3) ?_
    refine gk (v := .slice Ab (rs.length + q) cb) 5 rfl (St.del 4 S25) (fun _ Sx31 => (y_load rfl rfl (r_load Try.underlying22 rfl (St.cl 3 Sx31 rfl qRow_g3)))) ?_
    refine gk (v := .pointer (some ⟨b20, 2, none⟩)) 6 rfl (St.del 4 S25) (fun _ _ => yfa _ fa141_1) ?_
    refine gk (v := .agg #[.int .i64 x18.msg.no, .int .i64 x18.msg.body]) 7 rfl (St.del 4 S25) (fun _ Sx33 => (y_load rfl rfl (r_load_agg (cs := [.int .i64 x18.msg.no, .int .i64 x18.msg.body]) Try.underlying137 rfl inf137 rfl (St.rg 0 Sx33 rfl (sub_row (x := 2) (m := 2) rfl))))) ?_
    refine wG_one (m := 5) (r := 8) (by kernel_rfl) ?_
    refine wH_new (i := 8) rfl rfl (V := fun b => .slice (some ⟨b, 0, none⟩) 1 1) (row := #[.int .i64 x18.msg.no, .int .i64 x18.msg.body]) (t := 137) S25 (wn rfl) rfl rfl (d_buildSlice (vs := [(0, .agg #[.int .i64 x18.msg.no, .int .i64 x18.msg.body])]) rfl ⟨rfl, rfl, trivial⟩ (by kernel_rfl)) ?_; intro b34 w35 S36; clear S25
    refine ⟨(S36.dels [5, 0]), ?_⟩
    refine wG_one (m := 4) (r := 9) (by kernel_rfl) ?_
    refine wH_append (i := 9) rfl rfl (news := [.int .i64 x18.msg.no, .int .i64 x18.msg.body]) (xs' := (rs ++ (ls.take (q + 1)).map (·.msg)).flatMap Msg.cells) 5 S36 (wn rfl) rfl rfl rfl rfl rfl rfl (St.bld (xs := [.int .i64 x18.msg.no, .int .i64 x18.msg.body]) 0 S36 rfl rfl rfl) Try.underlying22 infz137 rfl (by decide) (oneAll rfl) (by simp only [maxLen]; omega) (by omega) (fm_snoc (enc := Msg.cells) (by rw [List.append_assoc, take_map (f := fun x : Ls => x.msg) hx19]) rfl) ?_; intro A37 c38 w39 hc41 hm42 S40; clear S36
    change St _ _ _ (_ :: _ :: _ :: _ :: _ :: (.own 137 2 (.slice A37 ((rs.length + q) + 1) c38) ((rs.length + q) + 1) ((rs ++ (ls.take (q + 1)).map (·.msg)).flatMap Msg.cells)) :: _ :: fs) at S40
    refine ⟨(S40.dels [5, 0]), ?_⟩
    refine wG_tail (by kernel_rfl) rfl rfl rfl ?_
    refine vv (y_nil rfl rfl trivial) ?_
    refine vv (yfa 0 fa190_0) ?_
    refine vv (yfa 3 fa29_3) ?_
    refine wL_st (cs := #[.slice A37 ((rs.length + q) + 1) c38]) (row' := qRow ep nx gv (.slice A37 ((rs.length + q) + 1) c38) (.slice (some ⟨b16, o17, none⟩) ls.length c2) W) (fs' := (_ :: _ :: _ :: _ :: (.blk g (qRow ep nx gv (.slice A37 ((rs.length + q) + 1) c38) (.slice (some ⟨b16, o17, none⟩) ls.length c2) W) 190) :: _ :: _ :: fs)) 4 S40 (wn rfl) rfl rfl rfl rfl rfl rfl inf22 rfl (oneAll rfl) (Nat.le_of_ble_eq_true rfl) qRow_s3 rfl ?_; intro w43 S44; clear S40
    refine wL_nil (wQ_np ?_)
    refine pk [0, 4, 5, 19, 20, 21] ?_
    refine wQ_blk_n (wQ_then (wC_region (vv (v := .int .i64 ((q + 1 : Nat) : Int)) (y_binop rfl rfl rfl (r_add (by omega) (by omega))) ?_)))
    refine vm ?_
    refine qk [0, 4, 5, 19, 20, 21] ?_
    have S45 : St B w0 w43 (_ :: _ :: _ :: _ :: _ :: fs) := (St.del 0 (St.del 1 S44)); clear S44
    refine wQ_round (q + 1, A37, c38) ?_ ⟨rfl, rfl, rfl, rfl, rfl, rfl, trivial⟩ (by first | omega | (dsimp only; omega))
    exact ⟨(by dsimp only; omega), S45⟩
   ·refine vv (ylssF h15) ?_
    refine wL_nil (wQ_then (wC_seq (wC_cond_f rfl (wC_exit (wQ_then_exit (wQ_then_exit (wQ_blk_same (wQ_then (wC_seq (wC_region ?_))))))))))
    obtain rfl : q = ls.length := by omega
    have S46 := S13; clear S13
    rw [List.take_length] at S46
    change St _ _ _ ((.blk b4 #[.int .i64 0, .int .i64 0, .int .i64 0, .int .i64 0] 93) :: (.blk b1 #[.int .i64 kd, .int .i64 ((k : Nat) : Int), .int .i64 id, .int .i64 bd, .int .i64 he, .int .i64 hn] 37) :: (.blk g (qRow ep nx gv (.slice Ab (rs.length + ls.length) cb) (.slice A2 ls.length c2) W) 190) :: (.own 137 2 (.slice Ab (rs.length + ls.length) cb) (rs.length + ls.length) ((rs ++ ls.map (·.msg)).flatMap Msg.cells)) :: (.own 141 4 (.slice A2 ls.length c2) ls.length ((ls).flatMap Ls.cells)) :: fs) at S46
    refine vm ?_
    refine vv (y_nil rfl rfl trivial) ?_
    refine vv (yfa 0 fa190_0) ?_
    refine vv (yfa 3 fa29_3) ?_
    refine vv (y_load rfl rfl (r_load Try.underlying22 rfl (St.cl 2 S46 rfl qRow_g3))) ?_
    have hml : (rs ++ ls.map (·.msg)).length = rs.length + ls.length := by simp
    have HS := fun A c w (ho : World.ownsRow w B 137 2 (.slice A (rs ++ ls.map (·.msg)).length c) (rs ++ ls.map (·.msg)).length ((rs ++ ls.map (·.msg)).flatMap Msg.cells)) => SortM_calls A c (rs ++ ls.map (·.msg)) w ho (by omega)
    rw [hml] at HS
    refine cal en178 (HS Ab cb _ (S46.own 3 rfl)) ?_
    rintro _ w47 ⟨rfl, d49, hp50, ha51, ho52, hg53⟩
    refine ⟨_, rfl, ?_⟩
    have S48 := S46.append 3 rfl hg53 ho52 (.inl rfl)
    have hdl := end_list hp50 ha51 hA hN; clear HS ho52 hg53 S46
    change St _ _ _ ((.blk b4 #[.int .i64 0, .int .i64 0, .int .i64 0, .int .i64 0] 93) :: (.blk b1 #[.int .i64 kd, .int .i64 ((k : Nat) : Int), .int .i64 id, .int .i64 bd, .int .i64 he, .int .i64 hn] 37) :: (.blk g (qRow ep nx gv (.slice Ab (rs.length + ls.length) cb) (.slice A2 ls.length c2) W) 190) :: (.own 137 2 (.slice Ab (rs.length + ls.length) cb) (rs.length + ls.length) ((d49).flatMap Msg.cells)) :: (.own 141 4 (.slice A2 ls.length c2) ls.length ((ls).flatMap Ls.cells)) :: fs) at S48
    refine qk [0, 4, 5] ?_
    refine x_tsr (vm ?_)
    refine vv (y_nil rfl rfl trivial) ?_
    refine vv (yfa 0 fa190_0) ?_
    refine vv (yfa 4 fa29_4) ?_
    refine wL_st (cs := #[.slice none 0 0]) (row' := qRow ep nx gv (.slice Ab (rs.length + ls.length) cb) (.slice none 0 0) W) (fs' := (_ :: _ :: (.blk g (qRow ep nx gv (.slice Ab (rs.length + ls.length) cb) (.slice none 0 0) W) 190) :: _ :: _ :: fs)) 2 S48 (wn rfl) rfl rfl rfl rfl rfl rfl inf23 rfl (oneAll rfl) (Nat.le_of_ble_eq_true rfl) qRow_s4 rfl ?_; intro w54 S55; clear S48
    refine qk [0, 4, 5] ?_
    refine x_tsr (vm ?_)
    refine vv (y_nil rfl rfl trivial) ?_
    refine vv (yfa 0 fa190_0) ?_
    refine vv (yfa 0 fa29_0) ?_
    refine vv (y_load rfl rfl (r_load Try.underlying3 rfl (St.cl 2 S55 rfl qRow_g0))) ?_
    refine vv (v := .int .i64 (ep + 1)) (y_binop rfl rfl rfl (r_add (by omega) (by omega))) ?_
    refine vv (y_nil rfl rfl trivial) ?_
    refine vv (yfa 0 fa190_0) ?_
    refine vv (yfa 0 fa29_0) ?_
    refine wL_st (cs := #[.int .i64 (ep + 1)]) (row' := qRow (ep + 1) nx gv (.slice Ab (rs.length + ls.length) cb) (.slice none 0 0) W) (fs' := (_ :: _ :: (.blk g (qRow (ep + 1) nx gv (.slice Ab (rs.length + ls.length) cb) (.slice none 0 0) W) 190) :: _ :: _ :: fs)) 2 S55 (wn rfl) rfl rfl rfl rfl rfl rfl inf3 rfl (oneAll rfl) (Nat.le_of_ble_eq_true rfl) qRow_s0 rfl ?_; intro w56 S57; clear S55
    refine qk [0, 4, 5] ?_
    refine x_tsr (vm ?_)
    refine vv (y_nil rfl rfl trivial) ?_
    refine vv (yfa 0 fa190_0) ?_
    refine vv (yfa 2 fa29_2) ?_
    refine wL_st (cs := #[.int .i64 0]) (row' := qRow (ep + 1) nx 0 (.slice Ab (rs.length + ls.length) cb) (.slice none 0 0) W) (fs' := (_ :: _ :: (.blk g (qRow (ep + 1) nx 0 (.slice Ab (rs.length + ls.length) cb) (.slice none 0 0) W) 190) :: _ :: _ :: fs)) 2 S57 (wn rfl) rfl rfl rfl rfl rfl rfl inf3 rfl (oneAll rfl) (Nat.le_of_ble_eq_true rfl) qRow_s2 rfl ?_; intro w58 S59; clear S57
    refine qk [4, 5] ?_
    refine x_tsr (vv (v := .agg #[.int .i64 0, .int .i64 0, .int .i64 0, .int .i64 0]) yz ?_)
    refine sa 0 S59 inf93 ?_; intro w60 S61; clear S59
    refine va ?_
    refine qk [4, 5] ?_
    refine x_te (pc 0 S61 Try.underlying93 inf93 ?_)
    have S62 : St B w0 w60 (_ :: _ :: _ :: fs) := (St.del 0 (St.del 1 S61)); clear S61
    have S63 := S62.sealAll 1 rfl; clear S62
    change St _ _ _ (_ :: (.rdo 2 Ab (rs.length + ls.length) ((d49).flatMap Msg.cells)) :: _ :: fs) at S63
    have S64 := S63.seal 2 rfl Rd.none_ (fun (a : Addr) (h : (none : Option Addr) = some a) => by cases h); clear S63
    change St _ _ _ (_ :: _ :: (.rdo 4 none 0 ((([] : List Ls)).flatMap Ls.cells)) :: fs) at S64
    have hln : d49.length = rs.length + ls.length := by rw [hp50.length_eq, hml]
    rw [end_ok h1, ← hdl]
    refine ⟨rfl, Ab, cb, none, 0, ?_⟩
    dsimp only
    rw [hln]
    exact S64
end Go.Proofs.Ytkjlafpafmihaaa

namespace Go.Proofs.Ytkjlafpafmihaaa
open Go.ChangeShapes Go.WideShapes Go.RowKit
section
variable {m x : Msg} {l out : List Msg} {k : Nat}
theorem put_mid (hx : l[k]? = some x) (h : m.no < x.no) (hi : putMsg m l = out ++ putMsg m (l.drop k)) : putMsg m l = (out ++ [m] ++ [x]) ++ l.drop (k + 1) := by
  obtain ⟨hk, e⟩ := List.getElem?_eq_some_iff.1 hx
  rw [hi, List.drop_eq_getElem_cons hk, e, putMsg, if_pos h]
  simp
theorem put_past (hx : l[k]? = some x) (h : ¬ m.no < x.no) (hi : putMsg m l = out ++ putMsg m (l.drop k)) : putMsg m l = (out ++ [x]) ++ putMsg m (l.drop (k + 1)) := by
  obtain ⟨hk, e⟩ := List.getElem?_eq_some_iff.1 hx
  rw [hi, List.drop_eq_getElem_cons hk, e, putMsg, if_neg h]
  simp
theorem put_rest (hx : l[k]? = some x) (hi : putMsg m l = out ++ l.drop k) : putMsg m l = (out ++ [x]) ++ l.drop (k + 1) := by
  obtain ⟨hk, e⟩ := List.getElem?_eq_some_iff.1 hx
  rw [hi, List.drop_eq_getElem_cons hk, e]
  simp
theorem put_end (hk : l.length ≤ k) (hi : putMsg m l = out ++ putMsg m (l.drop k)) : putMsg m l = out ++ [m] := by
  rw [hi, List.drop_eq_nil_of_le hk]; rfl
theorem put_done (hk : l.length ≤ k) (hi : putMsg m l = out ++ l.drop k) : putMsg m l = out := by
  rw [hi, List.drop_eq_nil_of_le hk, List.append_nil]
/-- What is still to be laid behind out. -/
def putRest (m : Msg) (l : List Msg) : Bool → List Msg
  | true => l
  | false => putMsg m l
theorem fold_len (ls : List Ls) (rs : List Msg) : (ls.foldl (fun l x => putMsg x.msg l) rs).length = rs.length + ls.length := by
  have := (fold_perm ls rs).length_eq
  simpa using this
theorem fold_step {ls : List Ls} {rs : List Msg} {x : Ls} {k : Nat} (hx : ls[k]? = some x) : putMsg x.msg ((ls.take k).foldl (fun l x => putMsg x.msg l) rs) = (ls.take (k + 1)).foldl (fun l x => putMsg x.msg l) rs := by
  rw [List.take_add_one, hx, List.foldl_append]
  rfl
theorem filt_step {α : Type} {l : List α} {f : α → Bool} {x : α} {k : Nat} (hx : l[k]? = some x) (h : f x = true) : (l.take k).filter f ++ [x] = (l.take (k + 1)).filter f := by
  rw [List.take_add_one, hx, List.filter_append]
  simp [h]
theorem filt_skip {α : Type} {l : List α} {f : α → Bool} {x : α} {k : Nat} (hx : l[k]? = some x) (h : f x = false) : (l.take k).filter f = (l.take (k + 1)).filter f := by
  rw [List.take_add_one, hx, List.filter_append]
  simp [h]
end
end Go.Proofs.Ytkjlafpafmihaaa

namespace Go.Proofs.Ytkjlafpafmihaaa
open Go.ChangeShapes Go.WideShapes Go.RowKit

set_option maxRecDepth 100000 in
set_option maxHeartbeats 1000000 in
theorem sameBerth_calls (ro ep fr tg rd : Int) (A : Option Addr) (c : Nat) (A' : Option Addr) (c' : Nat) (l : List Ev) (w : World) (h : Rd w w.heap.size 6 A l.length (evCells l)) (h' : Rd w w.heap.size 6 A' l.length (evCells l)) (hl : l.length ≤ 9000000000000000) :
    Calls Try.prog 81 #[.agg #[.int .i64 ro, .int .i64 ep, .int .i64 fr, .int .i64 tg, .int .i64 rd, .slice A l.length c], .agg #[.int .i64 ro, .int .i64 ep, .int .i64 fr, .int .i64 tg, .int .i64 rd, .slice A' l.length c']] w (BoolB w true) := by
 have S := ((St.start w).addRd h').addRd h; clear h h'
 refine fnw 45 Try.func81 ?_
 refine cw [0, 1] ?_
 refine x_sr (nb (row := #[.int .i64 ro, .int .i64 ep, .int .i64 fr, .int .i64 tg, .int .i64 rd, .slice A l.length c]) S ?_); intro b1 w2 S3; clear S
 refine nb (row := #[.int .i64 ro, .int .i64 ep, .int .i64 fr, .int .i64 tg, .int .i64 rd, .slice A' l.length c']) S3 ?_; intro b4 w5 S6; clear S3
 refine vv ya ?_
 refine qk [2, 3, 4] ?_
 refine x_tsr (vv (yfa 0 fa108_0) ?_)
 refine vv (ylc 1 S6 Try.underlying3) ?_
 refine vv (yfa 0 fa108_0) ?_
 refine vv (ylc 0 S6 Try.underlying3) ?_
 refine vv (yeqlT rfl) ?_
 refine vv ym ?_
 refine vg (yfa 1 fa108_1) ?_
 refine vg (ylc 1 S6 Try.underlying3) ?_
 refine vg (yfa 1 fa108_1) ?_
 refine vg (ylc 0 S6 Try.underlying3) ?_
 refine vg (yeqlT rfl) ?_
 refine vv ypT ?_
 refine vv ym ?_
 refine vg (yfa 2 fa108_2) ?_
 refine vg (ylc 1 S6 Try.underlying3) ?_
 refine vg (yfa 2 fa108_2) ?_
 refine vg (ylc 0 S6 Try.underlying3) ?_
 refine vg (yeqlT rfl) ?_
 refine vv ypT ?_
 refine vv ym ?_
 refine vg (yfa 3 fa108_3) ?_
 refine vg (ylc 1 S6 Try.underlying3) ?_
 refine vg (yfa 3 fa108_3) ?_
 refine vg (ylc 0 S6 Try.underlying3) ?_
 refine vg (yeqlT rfl) ?_
 refine vv ypT ?_
 refine vv ym ?_
 refine vg (yfa 4 fa108_4) ?_
 refine vg (ylc 1 S6 Try.underlying3) ?_
 refine vg (yfa 4 fa108_4) ?_
 refine vg (ylc 0 S6 Try.underlying3) ?_
 refine vg (yeqlT rfl) ?_
 refine vv ypT ?_
 refine vv ym ?_
 refine vg (yfa 5 fa108_5) ?_
 refine vg (ylc 1 S6 Try.underlying57) ?_
 refine vg (yfa 5 fa108_5) ?_
 refine vg (ylc 0 S6 Try.underlying57) ?_
 refine wL_call (vs := [.slice A l.length c, .slice A' l.length c']) (wg rfl rfl rfl rfl) rfl rfl (e_call (vs := [.slice A l.length c, .slice A' l.length c']) rfl en72 ⟨rfl, rfl, trivial⟩) (sameEvents_t (St.rd 2 S6 rfl) (St.rd 3 S6 rfl) (by simp only [maxLen]; omega) (by simp only [maxLen]; omega)) ?_
 rintro _ w7 ⟨rfl, hb9⟩
 refine ⟨_, rfl, ?_⟩
 have S8 := S6.on hb9; clear hb9 S6
 refine vv ypT ?_
 refine vv ya ?_
 refine qk [4] ?_
 refine x_te (pt ?_)
 exact ⟨rfl, S8.low⟩
end Go.Proofs.Ytkjlafpafmihaaa

