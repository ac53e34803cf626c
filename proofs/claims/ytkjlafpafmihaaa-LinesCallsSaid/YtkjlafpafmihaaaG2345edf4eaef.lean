/- Parts of proofs: lemmas on memory, on single functions and on the plain models; no condition of their own. -/
import Derived.Test.YtkjlafpafmihaaaRows
import Derived.WalkKit
import Derived.ProofKit
import Derived.OpenShut
import Derived.SizedLaws
import Derived.WalkSpells
import Derived.WalkLawsBesides
import Derived.Handy
import Derived.Deep.QuietTactic
import Derived.BigQuiet
import Derived.Lib.Hide
import Derived.Maps.AppendAt
import Derived.Deep.AppendLies
import Derived.RegionTactic
import Derived.OwnWalk
import Derived.Laws.Tables
import Derived.Deep.MidRow
import Derived.StillTailTactics
import Derived.OrdersHeld
import Derived.Deep.RegionHeld3
import Derived.Laws.IdiomCopy
import Derived.ChangeKeysEq
import Derived.Laws.BitsAllLaws
import Derived.Deep.DeepCutAuto
import Derived.Deep.CutRange
import Derived.Test.YtkjlafpafmihaaaG106a6d0673e2
import Derived.Test.YtkjlafpafmihaaaG191435b3f518
import Derived.Test.YtkjlafpafmihaaaG37e7b647d51a
import Derived.Test.YtkjlafpafmihaaaG5048191d089e
import Derived.Test.YtkjlafpafmihaaaG878ee676a6ad
import Derived.Test.YtkjlafpafmihaaaGa1b4b7d9fd42
import Derived.Test.YtkjlafpafmihaaaGa54395e311fb
import Derived.Test.YtkjlafpafmihaaaGaa2045d604a6
import Derived.Test.YtkjlafpafmihaaaGbd4cc4649efe
import Derived.Test.YtkjlafpafmihaaaGe8bce0846ba6
set_option linter.unusedVariables false
set_option linter.unusedSimpArgs false

namespace Go.Proofs.Ytkjlafpafmihaaa
open Go.ChangeShapes Go.WideShapes Go.RowKit

structure Msg where
  no : Int
  body : Int
  deriving DecidableEq
structure Ls where
  hep : Int
  hno : Int
  msg : Msg
  deriving DecidableEq
structure Wins where
  a : Win
  b : Win
  c : Win
  d : Win
  deriving DecidableEq
structure Qd where
  ep : Int
  nx : Int
  gv : Int
  ready : List Msg
  leases : List Ls
  ws : Wins
  deriving DecidableEq
def Msg.cells (m : Msg) : List Value := [.int .i64 m.no, .int .i64 m.body]
def Ls.cells (x : Ls) : List Value := [.int .i64 x.hep, .int .i64 x.hno, .int .i64 x.msg.no, .int .i64 x.msg.body]
def Wins.cells (x : Wins) : List Value := x.a.cells ++ (x.b.cells ++ (x.c.cells ++ x.d.cells))
def Wins.at (x : Wins) (p : Nat) : Win := if p = 0 then x.a else if p = 1 then x.b else if p = 2 then x.c else x.d
def Wins.put (x : Wins) (p : Nat) (y : Win) : Wins := if p = 0 then { x with a := y } else if p = 1 then { x with b := y } else if p = 2 then { x with c := y } else { x with d := y }
theorem Wins.len (x : Wins) : x.cells.length = 36 := rfl
theorem Win.len (x : Win) : x.cells.length = 9 := rfl
theorem In_t {n lo hi : Int} (h : lo ≤ n ∧ n ≤ hi) (w : World) : Calls Try.prog 107 #[.int .i64 n, .int .i64 lo, .int .i64 hi] w fun e w' => e = .returned (.bool true) ∧ w = w' := by
  have := In_calls n lo hi w
  rw [show inR n lo hi = true by simp [inR, h.1, h.2]] at this
  exact this
theorem In_f {n lo hi : Int} (h : ¬ (lo ≤ n ∧ n ≤ hi)) (w : World) : Calls Try.prog 107 #[.int .i64 n, .int .i64 lo, .int .i64 hi] w fun e w' => e = .returned (.bool false) ∧ w = w' := by
  have := In_calls n lo hi w
  rw [show inR n lo hi = false by simp [inR]; omega] at this
  exact this
end Go.Proofs.Ytkjlafpafmihaaa

namespace Go.Proofs.Ytkjlafpafmihaaa
open Go.ChangeShapes Go.WideShapes Go.RowKit
theorem St.blkRdo {B : Nat} {w0 w : World} {fs : List Fact} {b n s : Nat} {row : Array Value} {t : TypeId} {xs : List Value} (i : Nat) (S : St B w0 w fs) (hi : fs[i]? = some (.blk b row t)) (hx : row.toList = xs) (hl : xs.length = n * s) : St B w0 w (fs.set i (.rdo s (some ⟨b, 0, none⟩) n xs)) :=
  St.turn i S hi S.low (Nat.le_refl _) (fun _ _ _ => rfl) ⟨St.bld i S hi hx hl, fun a h => by cases h; exact ⟨St.ge i S hi, St.lt i S hi⟩⟩ (fun k hk => .inl hk)
def slotCells (g : Nat) (p : Nat × Int) : List Value := [.pointer (some ⟨g, p.1, none⟩), .int .i64 p.2]
def wordOf (kd ek : Int) : ByteArray :=
  if kd = 1 then ⟨#[109, 97, 107, 101]⟩ else if kd = 10 then ⟨#[109, 111, 118, 101]⟩ else if kd = 3 then ⟨#[115, 116, 101, 112]⟩ else if kd = 9 then ⟨#[115, 116, 97, 114, 116]⟩ else if kd = 8 then ⟨#[99, 114, 97, 115, 104]⟩
  else if kd = 4 then ⟨#[99, 97, 114, 114, 121]⟩ else if kd = 5 then ⟨#[108, 111, 115, 101]⟩ else if kd = 6 then ⟨#[100, 111, 117, 98, 108, 101]⟩ else if kd = 7 then ⟨#[97, 108, 108]⟩
  else if kd = 2 then (if ek = 1 then ⟨#[112, 117, 98, 108, 105, 115, 104]⟩ else if ek = 2 then ⟨#[114, 101, 99, 101, 105, 118, 101]⟩ else if ek = 3 then ⟨#[97, 99, 107]⟩ else ⟨#[]⟩) else ⟨#[]⟩
def FormPost (w : World) (g : Nat) (u : ByteArray) (r : Option (List (Nat × Int))) (e : Ending) (w' : World) : Prop := match r with
  | none => e = .returned (.tuple #[.string u, .slice none 0 0, .bool false]) ∧ Below w.heap.size w w'
  | some l => ∃ A, e = .returned (.tuple #[.string u, .slice A l.length l.length, .bool true]) ∧ St w.heap.size w w' [.rdo 2 A l.length (l.flatMap (slotCells g))]
section
variable {P : Program} {w : World} {t : TypeId} {xo yo : Operand}
theorem r_seql {a b : ByteArray} {q : Bool} (h : (a.toList == b.toList) = q) : (do eqGuard .eql t xo yo (.string a) (.string b); binOp .eql t (.string a) (.string b) : Sem Value).run P w = .ok (.bool q) w := by
  subst h
  simp [binOp, eqGuard_at_string, go_sem, Op.stringOp]
end
theorem wordne (kd ek : Int) (l : List (Nat × Int)) (h : formL kd ek = some l) : ((wordOf kd ek).toList == (⟨#[]⟩ : ByteArray).toList) = false := by
  rcases kinds kd ek with rfl | rfl | rfl | rfl | rfl | rfl | rfl | rfl | rfl | ⟨rfl, rfl⟩ | ⟨rfl, rfl⟩ | ⟨rfl, rfl⟩ | hn
  all_goals first | (rw [hn] at h; cases h; done) | kernel_rfl
theorem wordno (kd ek : Int) (h : formL kd ek = none) : wordOf kd ek = ⟨#[]⟩ := by
  have h1 : kd ≠ 1 := fun e => by subst e; cases h
  have h10 : kd ≠ 10 := fun e => by subst e; cases h
  have h3 : kd ≠ 3 := fun e => by subst e; cases h
  have h9 : kd ≠ 9 := fun e => by subst e; cases h
  have h8 : kd ≠ 8 := fun e => by subst e; cases h
  have h4 : kd ≠ 4 := fun e => by subst e; cases h
  have h5 : kd ≠ 5 := fun e => by subst e; cases h
  have h6 : kd ≠ 6 := fun e => by subst e; cases h
  have h7 : kd ≠ 7 := fun e => by subst e; cases h
  unfold wordOf
  rw [if_neg h1, if_neg h10, if_neg h3, if_neg h9, if_neg h8, if_neg h4, if_neg h5, if_neg h6, if_neg h7]
  by_cases h2 : kd = 2
  · subst h2
    have e1 : ek ≠ 1 := fun e => by subst e; cases h
    have e2 : ek ≠ 2 := fun e => by subst e; cases h
    have e3 : ek ≠ 3 := fun e => by subst e; cases h
    rw [if_pos rfl, if_neg e1, if_neg e2, if_neg e3]
  · rw [if_neg h2]
def StrPost (w : World) (u : ByteArray) (e : Ending) (w' : World) : Prop := e = .returned (.string u) ∧ Below w.heap.size w w'
def valC (x : Ac) (p : Nat × Int) : List Value := [.int .i64 (x.get p.1)]
def mostC (p : Nat × Int) : List Value := [.int .i64 p.2]
theorem Ac.cellA (x : Ac) {i : Nat} (h : i < 11) : x.cells.toArray[i]? = some (.int .i64 (x.get i)) := by rw [List.getElem?_toArray]; exact x.cell h
def NumPost (w : World) (x : Ac) (l : List (Nat × Int)) (e : Ending) (w' : World) : Prop := ∃ A A', e = .returned (.tuple #[.slice A l.length l.length, .slice A' l.length l.length]) ∧
  St w.heap.size w w' [.rdo 1 A l.length (l.flatMap (valC x)), .rdo 1 A' l.length (l.flatMap mostC)]
def AcPost (w : World) (y : Ac) (e : Ending) (w' : World) : Prop := e = .returned (.agg y.cells.toArray) ∧ Below w.heap.size w w'
end Go.Proofs.Ytkjlafpafmihaaa

namespace Go.Proofs.Ytkjlafpafmihaaa
open Go.ChangeShapes Go.WideShapes Go.RowKit

set_option maxRecDepth 100000 in
set_option maxHeartbeats 8000000 in
theorem ActWord_calls (x : Ac) (w : World) :
    Calls Try.prog 110 #[.agg #[.int .i64 x.kd, .int .i64 x.nd, .int .i64 x.qu, .int .i64 x.at_, .int .i64 x.kp, .int .i64 x.ek, .int .i64 x.ep, .int .i64 x.ei, .int .i64 x.eb, .int .i64 x.eh, .int .i64 x.en]] w (StrPost w (wordOf x.kd x.ek)) := by
 have S := St.start w
 refine fnw 50 Try.func110 ?_
 refine cw [0] ?_
 refine x_sr (nb (row := #[.int .i64 x.kd, .int .i64 x.nd, .int .i64 x.qu, .int .i64 x.at_, .int .i64 x.kp, .int .i64 x.ek, .int .i64 x.ep, .int .i64 x.ei, .int .i64 x.eb, .int .i64 x.eh, .int .i64 x.en]) S ?_); intro b1 w2 S3; clear S
 refine va ?_
 refine qk [1, 2] ?_
 refine x_tssr (vv (yfa 0 fa39_0) ?_)
 refine vv (ylc 0 S3 Try.underlying3) ?_
 refine qk [1, 2, 4] ?_
 refine x_tbsr ?_
 by_cases h4 : x.kd = 1
 ·refine vv (yeqlT h4) ?_
  refine va ?_
  refine qk [1, 2, 4, 5] ?_
  refine x_tysr (va ?_)
  refine qk [2] ?_
  refine x_tech (wQ_post (rs := [.tmp 2]) (vs := [.string ⟨#[109, 97, 107, 101]⟩]) rfl ⟨rfl, trivial⟩ ?_)
  rw [show wordOf x.kd x.ek = ⟨#[109, 97, 107, 101]⟩ from by simp [wordOf, h4]]
  exact ⟨rfl, S3.low⟩
 ·refine vv (yeqlF h4) ?_
  refine va ?_
  refine qk [1, 2, 4, 5] ?_
  refine x_tnsr ?_
  by_cases h5 : x.kd = 10
  ·refine vv (yeqlT h5) ?_
   refine va ?_
   refine qk [1, 2, 4, 7] ?_
   refine x_tysr (va ?_)
   refine qk [2] ?_
   refine x_tech (wQ_post (rs := [.tmp 2]) (vs := [.string ⟨#[109, 111, 118, 101]⟩]) rfl ⟨rfl, trivial⟩ ?_)
   rw [show wordOf x.kd x.ek = ⟨#[109, 111, 118, 101]⟩ from by simp [wordOf, h4, h5]]
   exact ⟨rfl, S3.low⟩
  ·refine vv (yeqlF h5) ?_
   refine va ?_
   refine qk [1, 2, 4, 7] ?_
   refine x_tnsr ?_
   by_cases h6 : x.kd = 3
   ·refine vv (yeqlT h6) ?_
    refine va ?_
    refine qk [1, 2, 4, 9] ?_
    refine x_tysr (va ?_)
    refine qk [2] ?_
    refine x_tech (wQ_post (rs := [.tmp 2]) (vs := [.string ⟨#[115, 116, 101, 112]⟩]) rfl ⟨rfl, trivial⟩ ?_)
    rw [show wordOf x.kd x.ek = ⟨#[115, 116, 101, 112]⟩ from by simp [wordOf, h4, h5, h6]]
    exact ⟨rfl, S3.low⟩
   ·refine vv (yeqlF h6) ?_
    refine va ?_
    refine qk [1, 2, 4, 9] ?_
    refine x_tnsr ?_
    by_cases h7 : x.kd = 9
    ·refine vv (yeqlT h7) ?_
     refine va ?_
     refine qk [1, 2, 4, 11] ?_
     refine x_tysr (va ?_)
     refine qk [2] ?_
     refine x_tech (wQ_post (rs := [.tmp 2]) (vs := [.string ⟨#[115, 116, 97, 114, 116]⟩]) rfl ⟨rfl, trivial⟩ ?_)
     rw [show wordOf x.kd x.ek = ⟨#[115, 116, 97, 114, 116]⟩ from by simp [wordOf, h4, h5, h6, h7]]
     exact ⟨rfl, S3.low⟩
    ·refine vv (yeqlF h7) ?_
     refine va ?_
     refine qk [1, 2, 4, 11] ?_
     refine x_tnsr ?_
     by_cases h8 : x.kd = 8
     ·refine vv (yeqlT h8) ?_
      refine va ?_
      refine qk [1, 2, 4, 13] ?_
      refine x_tysr (va ?_)
      refine qk [2] ?_
      refine x_tech (wQ_post (rs := [.tmp 2]) (vs := [.string ⟨#[99, 114, 97, 115, 104]⟩]) rfl ⟨rfl, trivial⟩ ?_)
      rw [show wordOf x.kd x.ek = ⟨#[99, 114, 97, 115, 104]⟩ from by simp [wordOf, h4, h5, h6, h7, h8]]
      exact ⟨rfl, S3.low⟩
     ·refine vv (yeqlF h8) ?_
      refine va ?_
      refine qk [1, 2, 4, 13] ?_
      refine x_tnsr ?_
      by_cases h9 : x.kd = 4
      ·refine vv (yeqlT h9) ?_
       refine va ?_
       refine qk [1, 2, 4, 15] ?_
       refine x_tysr (va ?_)
       refine qk [2] ?_
       refine x_tech (wQ_post (rs := [.tmp 2]) (vs := [.string ⟨#[99, 97, 114, 114, 121]⟩]) rfl ⟨rfl, trivial⟩ ?_)
       rw [show wordOf x.kd x.ek = ⟨#[99, 97, 114, 114, 121]⟩ from by simp [wordOf, h4, h5, h6, h7, h8, h9]]
       exact ⟨rfl, S3.low⟩
      ·refine vv (yeqlF h9) ?_
       refine va ?_
       refine qk [1, 2, 4, 15] ?_
       refine x_tnsr ?_
       by_cases h10 : x.kd = 5
       ·refine vv (yeqlT h10) ?_
        refine va ?_
        refine qk [1, 2, 4, 17] ?_
        refine x_tysr (va ?_)
        refine qk [2] ?_
        refine x_tech (wQ_post (rs := [.tmp 2]) (vs := [.string ⟨#[108, 111, 115, 101]⟩]) rfl ⟨rfl, trivial⟩ ?_)
        rw [show wordOf x.kd x.ek = ⟨#[108, 111, 115, 101]⟩ from by simp [wordOf, h4, h5, h6, h7, h8, h9, h10]]
        exact ⟨rfl, S3.low⟩
       ·refine vv (yeqlF h10) ?_
        refine va ?_
        refine qk [1, 2, 4, 17] ?_
        refine x_tnsr ?_
        by_cases h11 : x.kd = 6
        ·refine vv (yeqlT h11) ?_
         refine va ?_
         refine qk [1, 2, 4, 19] ?_
         refine x_tysr (va ?_)
         refine qk [2] ?_
         refine x_tech (wQ_post (rs := [.tmp 2]) (vs := [.string ⟨#[100, 111, 117, 98, 108, 101]⟩]) rfl ⟨rfl, trivial⟩ ?_)
         rw [show wordOf x.kd x.ek = ⟨#[100, 111, 117, 98, 108, 101]⟩ from by simp [wordOf, h4, h5, h6, h7, h8, h9, h10, h11]]
         exact ⟨rfl, S3.low⟩
        ·refine vv (yeqlF h11) ?_
         refine va ?_
         refine qk [1, 2, 4, 19] ?_
         refine x_tnsr ?_
         by_cases h12 : x.kd = 7
         ·refine vv (yeqlT h12) ?_
          refine va ?_
          refine qk [1, 2, 21] ?_
          refine x_tysr (va ?_)
          refine qk [2] ?_
          refine x_tech (wQ_post (rs := [.tmp 2]) (vs := [.string ⟨#[97, 108, 108]⟩]) rfl ⟨rfl, trivial⟩ ?_)
          rw [show wordOf x.kd x.ek = ⟨#[97, 108, 108]⟩ from by simp [wordOf, h4, h5, h6, h7, h8, h9, h10, h11, h12]]
          exact ⟨rfl, S3.low⟩
         ·refine vv (yeqlF h12) ?_
          refine va ?_
          refine qk [1, 2, 21] ?_
          refine wQ_then (wC_cond_f rfl (wC_skip (wQ_blk_n (wQ_then (wC_seq (wC_seq (wC_region (vv (yfa 0 fa39_0) ?_))))))))
          refine vv (ylc 0 S3 Try.underlying3) ?_
          by_cases h13 : x.kd = 2
          ·refine vv (yeqlT h13) ?_
           refine vm ?_
           refine vg (yfa 5 fa39_5) ?_
           refine vg (yfa 5 fa37_0) ?_
           refine vg (ylc 0 S3 Try.underlying3) ?_
           by_cases h14 : x.ek = 1
           ·refine vg (yeqlT h14) ?_
            refine vv ypT ?_
            refine qk [1, 2, 31] ?_
            refine x_tysr (va ?_)
            refine qk [2] ?_
            refine x_teh (wQ_post (rs := [.tmp 2]) (vs := [.string ⟨#[112, 117, 98, 108, 105, 115, 104]⟩]) rfl ⟨rfl, trivial⟩ ?_)
            rw [show wordOf x.kd x.ek = ⟨#[112, 117, 98, 108, 105, 115, 104]⟩ from by simp [wordOf, h4, h5, h6, h7, h8, h9, h10, h11, h12, h13, h14]]
            exact ⟨rfl, S3.low⟩
           ·refine vg (yeqlF h14) ?_
            refine vv ypT ?_
            refine qk [1, 2, 31] ?_
            refine x_tnktssr (vv (yfa 0 fa39_0) ?_)
            refine vv (ylc 0 S3 Try.underlying3) ?_
            refine vv (yeqlT h13) ?_
            refine vm ?_
            refine vg (yfa 5 fa39_5) ?_
            refine vg (yfa 5 fa37_0) ?_
            refine vg (ylc 0 S3 Try.underlying3) ?_
            by_cases h15 : x.ek = 2
            ·refine vg (yeqlT h15) ?_
             refine vv ypT ?_
             refine qk [1, 2, 40] ?_
             refine x_tysr (va ?_)
             refine qk [2] ?_
             refine x_teh (wQ_post (rs := [.tmp 2]) (vs := [.string ⟨#[114, 101, 99, 101, 105, 118, 101]⟩]) rfl ⟨rfl, trivial⟩ ?_)
             rw [show wordOf x.kd x.ek = ⟨#[114, 101, 99, 101, 105, 118, 101]⟩ from by simp [wordOf, h4, h5, h6, h7, h8, h9, h10, h11, h12, h13, h14, h15]]
             exact ⟨rfl, S3.low⟩
            ·refine vg (yeqlF h15) ?_
             refine vv ypT ?_
             refine qk [1, 2, 40] ?_
             refine x_tnktssr (vv (yfa 0 fa39_0) ?_)
             refine vv (ylc 0 S3 Try.underlying3) ?_
             refine vv (yeqlT h13) ?_
             refine vm ?_
             refine vg (yfa 5 fa39_5) ?_
             refine vg (yfa 5 fa37_0) ?_
             refine vg (ylc 0 S3 Try.underlying3) ?_
             by_cases h16 : x.ek = 3
             ·refine vg (yeqlT h16) ?_
              refine vv ypT ?_
              refine qk [2, 49] ?_
              refine x_tysr (va ?_)
              refine qk [2] ?_
              refine x_teh (wQ_post (rs := [.tmp 2]) (vs := [.string ⟨#[97, 99, 107]⟩]) rfl ⟨rfl, trivial⟩ ?_)
              rw [show wordOf x.kd x.ek = ⟨#[97, 99, 107]⟩ from by simp [wordOf, h4, h5, h6, h7, h8, h9, h10, h11, h12, h13, h14, h15, h16]]
              exact ⟨rfl, S3.low⟩
             ·refine vg (yeqlF h16) ?_
              refine vv ypT ?_
              refine qk [2, 49] ?_
              refine x_tnktsr (va ?_)
              refine qk [2] ?_
              refine x_te (wQ_post (rs := [.tmp 2]) (vs := [.string ⟨#[]⟩]) rfl ⟨rfl, trivial⟩ ?_)
              rw [show wordOf x.kd x.ek = ⟨#[]⟩ from by simp [wordOf, h4, h5, h6, h7, h8, h9, h10, h11, h12, h13, h14, h15, h16]]
              exact ⟨rfl, S3.low⟩
          ·refine vv (yeqlF h13) ?_
           refine vm ?_
           iterate 4 refine vs ?_
           refine vv ypF ?_
           refine qk [1, 2, 31] ?_
           refine x_tnktssr (vv (yfa 0 fa39_0) ?_)
           refine vv (ylc 0 S3 Try.underlying3) ?_
           refine vv (yeqlF h13) ?_
           refine vm ?_
           iterate 4 refine vs ?_
           refine vv ypF ?_
           refine qk [1, 2, 40] ?_
           refine x_tnktssr (vv (yfa 0 fa39_0) ?_)
           refine vv (ylc 0 S3 Try.underlying3) ?_
           refine vv (yeqlF h13) ?_
           refine vm ?_
           iterate 4 refine vs ?_
           refine vv ypF ?_
           refine qk [2, 49] ?_
           refine x_tnktsr (va ?_)
           refine qk [2] ?_
           refine x_te (wQ_post (rs := [.tmp 2]) (vs := [.string ⟨#[]⟩]) rfl ⟨rfl, trivial⟩ ?_)
           rw [show wordOf x.kd x.ek = ⟨#[]⟩ from by simp [wordOf, h4, h5, h6, h7, h8, h9, h10, h11, h12, h13]]
           exact ⟨rfl, S3.low⟩

set_option maxRecDepth 100000 in
set_option maxHeartbeats 8000000 in
theorem actNumbers_calls (x : Ac) (l : List (Nat × Int)) (hf : formL x.kd x.ek = some l) (w : World) :
    Calls Try.prog 111 #[.agg #[.int .i64 x.kd, .int .i64 x.nd, .int .i64 x.qu, .int .i64 x.at_, .int .i64 x.kp, .int .i64 x.ek, .int .i64 x.ep, .int .i64 x.ei, .int .i64 x.eb, .int .i64 x.eh, .int .i64 x.en]] w (NumPost w x l) := by
 have S := St.start w
 refine fnw 79 Try.func111 ?_
 refine cw [0] ?_
 refine x_sr (nb (row := #[.int .i64 x.kd, .int .i64 x.nd, .int .i64 x.qu, .int .i64 x.at_, .int .i64 x.kp, .int .i64 x.ek, .int .i64 x.ep, .int .i64 x.ei, .int .i64 x.eb, .int .i64 x.eh, .int .i64 x.en]) S ?_); intro b1 w2 S3; clear S
 iterate 2 refine va ?_
 refine qk [1, 2, 3] ?_
 refine wQ_then (wC_seq (wC_seq ?_))
 rcases kinds x.kd x.ek with hk | hk | hk | hk | hk | hk | hk | hk | hk | ⟨hk, hek⟩ | ⟨hk, hek⟩ | ⟨hk, hek⟩ | hn
 ·have hl := hf
  simp [formL, hk] at hl
  subst hl
  have HW := fun w => ActWord_calls x w
  rw [show wordOf x.kd x.ek = ⟨#[109, 97, 107, 101]⟩ from by simp [wordOf, hk]] at HW
  refine wC_region (vv (ylr 0 S3 Try.underlying39 inf39) ?_)
  refine cab en110 S3 (HW _) ?_; intro w4 S5; clear S3
  refine qk [1, 2, 3, 5] ?_
  refine wQ_then (wC_block (wC_seq (wC_seq (wC_region (vv (v := .bool true) (y_binop rfl rfl rfl (r_seql (by kernel_rfl))) ?_)))))
  refine va ?_
  refine qk [1, 2, 3, 5, 6] ?_
  refine wQ_then (wC_cond_t rfl (wC_skip (wQ_then (wC_cond_t rfl (wC_seq (wC_region (vv (yfa 2 fa39_2) ?_)))))))
  refine vv (ylc 0 S5 Try.underlying3) ?_
  refine vv (yfa 1 fa39_1) ?_
  refine vv (ylc 0 S5 Try.underlying3) ?_
  refine wL_new (V := fun b => .slice (some ⟨b, 0, none⟩) 2 2) (row := #[.int .i64 x.qu, .int .i64 x.nd]) (t := 3) S5 (wn rfl) rfl rfl (d_buildSlice (vs := [(0, .int .i64 x.qu), (1, .int .i64 x.nd)]) rfl ⟨rfl, rfl, rfl, rfl, trivial⟩ (by kernel_rfl)) ?_; intro b7 w8 S9; clear S5
  refine wL_new (V := fun b => .slice (some ⟨b, 0, none⟩) 2 2) (row := #[.int .i64 3, .int .i64 4]) (t := 3) S9 (wn rfl) rfl rfl (d_buildSlice (vs := [(0, .int .i64 3), (1, .int .i64 4)]) rfl ⟨rfl, rfl, rfl, rfl, trivial⟩ (by kernel_rfl)) ?_; intro b10 w11 S12; clear S9
  iterate 2 refine va ?_
  refine qk [2, 3] ?_
  refine x_tech (wQ_post (rs := [.tmp 2, .tmp 3]) (vs := [.slice (some ⟨b7, 0, none⟩) 2 2, .slice (some ⟨b10, 0, none⟩) 2 2]) rfl ⟨rfl, rfl, trivial⟩ ?_)
  have S13 : St _ _ _ [_, _] := S12.dels [2]; clear S12
  have S14 : St w.heap.size w w11 [_, _] := S13.re [1, 0] (by decide); clear S13
  have S9 := St.blkRdo (s := 1) (n := 2) (xs := [.int .i64 x.qu, .int .i64 x.nd]) 0 S14 rfl rfl rfl
  have S10 := St.blkRdo (s := 1) (n := 2) (xs := [.int .i64 3, .int .i64 4]) 1 S9 rfl rfl rfl
  exact ⟨_, _, rfl, S10⟩
 ·have hl := hf
  simp [formL, hk] at hl
  subst hl
  have HW := fun w => ActWord_calls x w
  rw [show wordOf x.kd x.ek = ⟨#[109, 111, 118, 101]⟩ from by simp [wordOf, hk]] at HW
  refine wC_region (vv (ylr 0 S3 Try.underlying39 inf39) ?_)
  refine cab en110 S3 (HW _) ?_; intro w15 S16; clear S3
  refine qk [1, 2, 3, 5] ?_
  refine wQ_then (wC_block (wC_seq (wC_seq (wC_region (vv (v := .bool false) (y_binop rfl rfl rfl (r_seql (by kernel_rfl))) ?_)))))
  refine va ?_
  refine qk [1, 2, 3, 5, 6] ?_
  refine wQ_then (wC_cond_f rfl (wC_region (vv (v := .bool true) (y_binop rfl rfl rfl (r_seql (by kernel_rfl))) ?_)))
  refine va ?_
  refine qk [1, 2, 3, 5, 6] ?_
  refine x_tysr (vv (yfa 2 fa39_2) ?_)
  refine vv (ylc 0 S16 Try.underlying3) ?_
  refine vv (yfa 1 fa39_1) ?_
  refine vv (ylc 0 S16 Try.underlying3) ?_
  refine wL_new (V := fun b => .slice (some ⟨b, 0, none⟩) 2 2) (row := #[.int .i64 x.qu, .int .i64 x.nd]) (t := 3) S16 (wn rfl) rfl rfl (d_buildSlice (vs := [(0, .int .i64 x.qu), (1, .int .i64 x.nd)]) rfl ⟨rfl, rfl, rfl, rfl, trivial⟩ (by kernel_rfl)) ?_; intro b18 w19 S20; clear S16
  refine wL_new (V := fun b => .slice (some ⟨b, 0, none⟩) 2 2) (row := #[.int .i64 3, .int .i64 4]) (t := 3) S20 (wn rfl) rfl rfl (d_buildSlice (vs := [(0, .int .i64 3), (1, .int .i64 4)]) rfl ⟨rfl, rfl, rfl, rfl, trivial⟩ (by kernel_rfl)) ?_; intro b21 w22 S23; clear S20
  iterate 2 refine va ?_
  refine qk [2, 3] ?_
  refine x_tech (wQ_post (rs := [.tmp 2, .tmp 3]) (vs := [.slice (some ⟨b18, 0, none⟩) 2 2, .slice (some ⟨b21, 0, none⟩) 2 2]) rfl ⟨rfl, rfl, trivial⟩ ?_)
  have S24 : St _ _ _ [_, _] := S23.dels [2]; clear S23
  have S25 : St w.heap.size w w22 [_, _] := S24.re [1, 0] (by decide); clear S24
  have S9 := St.blkRdo (s := 1) (n := 2) (xs := [.int .i64 x.qu, .int .i64 x.nd]) 0 S25 rfl rfl rfl
  have S10 := St.blkRdo (s := 1) (n := 2) (xs := [.int .i64 3, .int .i64 4]) 1 S9 rfl rfl rfl
  exact ⟨_, _, rfl, S10⟩
 ·have hl := hf
  simp [formL, hk] at hl
  subst hl
  have HW := fun w => ActWord_calls x w
  rw [show wordOf x.kd x.ek = ⟨#[115, 116, 101, 112]⟩ from by simp [wordOf, hk]] at HW
  refine wC_region (vv (ylr 0 S3 Try.underlying39 inf39) ?_)
  refine cab en110 S3 (HW _) ?_; intro w26 S27; clear S3
  refine qk [1, 2, 3, 5] ?_
  refine wQ_then (wC_block (wC_seq (wC_seq (wC_region (vv (v := .bool false) (y_binop rfl rfl rfl (r_seql (by kernel_rfl))) ?_)))))
  refine va ?_
  refine qk [1, 2, 3, 5, 6] ?_
  refine wQ_then (wC_cond_f rfl (wC_region (vv (v := .bool false) (y_binop rfl rfl rfl (r_seql (by kernel_rfl))) ?_)))
  refine va ?_
  refine qk [1, 2, 3, 5, 6] ?_
  refine wQ_then (wC_cond_f rfl (wC_seq (wC_seq (wC_region (vv (v := .bool true) (y_binop rfl rfl rfl (r_seql (by kernel_rfl))) ?_)))))
  refine va ?_
  refine qk [1, 2, 3, 5, 15] ?_
  refine wQ_then (wC_cond_t rfl (wC_skip (wQ_then (wC_cond_t rfl (wC_seq (wC_region (vv (yfa 1 fa39_1) ?_)))))))
  refine vv (ylc 0 S27 Try.underlying3) ?_
  refine wL_new (V := fun b => .slice (some ⟨b, 0, none⟩) 1 1) (row := #[.int .i64 x.nd]) (t := 3) S27 (wn rfl) rfl rfl (d_buildSlice (vs := [(0, .int .i64 x.nd)]) rfl ⟨rfl, rfl, trivial⟩ (by kernel_rfl)) ?_; intro b29 w30 S31; clear S27
  refine wL_new (V := fun b => .slice (some ⟨b, 0, none⟩) 1 1) (row := #[.int .i64 4]) (t := 3) S31 (wn rfl) rfl rfl (d_buildSlice (vs := [(0, .int .i64 4)]) rfl ⟨rfl, rfl, trivial⟩ (by kernel_rfl)) ?_; intro b32 w33 S34; clear S31
  iterate 2 refine va ?_
  refine qk [2, 3] ?_
  refine x_tech (wQ_post (rs := [.tmp 2, .tmp 3]) (vs := [.slice (some ⟨b29, 0, none⟩) 1 1, .slice (some ⟨b32, 0, none⟩) 1 1]) rfl ⟨rfl, rfl, trivial⟩ ?_)
  have S35 : St _ _ _ [_, _] := S34.dels [2]; clear S34
  have S36 : St w.heap.size w w33 [_, _] := S35.re [1, 0] (by decide); clear S35
  have S9 := St.blkRdo (s := 1) (n := 1) (xs := [.int .i64 x.nd]) 0 S36 rfl rfl rfl
  have S10 := St.blkRdo (s := 1) (n := 1) (xs := [.int .i64 4]) 1 S9 rfl rfl rfl
  exact ⟨_, _, rfl, S10⟩
 ·have hl := hf
  simp [formL, hk] at hl
  subst hl
  have HW := fun w => ActWord_calls x w
  rw [show wordOf x.kd x.ek = ⟨#[115, 116, 97, 114, 116]⟩ from by simp [wordOf, hk]] at HW
  refine wC_region (vv (ylr 0 S3 Try.underlying39 inf39) ?_)
  refine cab en110 S3 (HW _) ?_; intro w37 S38; clear S3
  refine qk [1, 2, 3, 5] ?_
  refine wQ_then (wC_block (wC_seq (wC_seq (wC_region (vv (v := .bool false) (y_binop rfl rfl rfl (r_seql (by kernel_rfl))) ?_)))))
  refine va ?_
  refine qk [1, 2, 3, 5, 6] ?_
  refine wQ_then (wC_cond_f rfl (wC_region (vv (v := .bool false) (y_binop rfl rfl rfl (r_seql (by kernel_rfl))) ?_)))
  refine va ?_
  refine qk [1, 2, 3, 5, 6] ?_
  refine wQ_then (wC_cond_f rfl (wC_seq (wC_seq (wC_region (vv (v := .bool false) (y_binop rfl rfl rfl (r_seql (by kernel_rfl))) ?_)))))
  refine va ?_
  refine qk [1, 2, 3, 5, 15] ?_
  refine wQ_then (wC_cond_f rfl (wC_region (vv (v := .bool true) (y_binop rfl rfl rfl (r_seql (by kernel_rfl))) ?_)))
  refine va ?_
  refine qk [1, 2, 3, 5, 15] ?_
  refine x_tysr (vv (yfa 1 fa39_1) ?_)
  refine vv (ylc 0 S38 Try.underlying3) ?_
  refine wL_new (V := fun b => .slice (some ⟨b, 0, none⟩) 1 1) (row := #[.int .i64 x.nd]) (t := 3) S38 (wn rfl) rfl rfl (d_buildSlice (vs := [(0, .int .i64 x.nd)]) rfl ⟨rfl, rfl, trivial⟩ (by kernel_rfl)) ?_; intro b40 w41 S42; clear S38
  refine wL_new (V := fun b => .slice (some ⟨b, 0, none⟩) 1 1) (row := #[.int .i64 4]) (t := 3) S42 (wn rfl) rfl rfl (d_buildSlice (vs := [(0, .int .i64 4)]) rfl ⟨rfl, rfl, trivial⟩ (by kernel_rfl)) ?_; intro b43 w44 S45; clear S42
  iterate 2 refine va ?_
  refine qk [2, 3] ?_
  refine x_tech (wQ_post (rs := [.tmp 2, .tmp 3]) (vs := [.slice (some ⟨b40, 0, none⟩) 1 1, .slice (some ⟨b43, 0, none⟩) 1 1]) rfl ⟨rfl, rfl, trivial⟩ ?_)
  have S46 : St _ _ _ [_, _] := S45.dels [2]; clear S45
  have S47 : St w.heap.size w w44 [_, _] := S46.re [1, 0] (by decide); clear S46
  have S9 := St.blkRdo (s := 1) (n := 1) (xs := [.int .i64 x.nd]) 0 S47 rfl rfl rfl
  have S10 := St.blkRdo (s := 1) (n := 1) (xs := [.int .i64 4]) 1 S9 rfl rfl rfl
  exact ⟨_, _, rfl, S10⟩
 ·have hl := hf
  simp [formL, hk] at hl
  subst hl
  have HW := fun w => ActWord_calls x w
  rw [show wordOf x.kd x.ek = ⟨#[99, 114, 97, 115, 104]⟩ from by simp [wordOf, hk]] at HW
  refine wC_region (vv (ylr 0 S3 Try.underlying39 inf39) ?_)
  refine cab en110 S3 (HW _) ?_; intro w48 S49; clear S3
  refine qk [1, 2, 3, 5] ?_
  refine wQ_then (wC_block (wC_seq (wC_seq (wC_region (vv (v := .bool false) (y_binop rfl rfl rfl (r_seql (by kernel_rfl))) ?_)))))
  refine va ?_
  refine qk [1, 2, 3, 5, 6] ?_
  refine wQ_then (wC_cond_f rfl (wC_region (vv (v := .bool false) (y_binop rfl rfl rfl (r_seql (by kernel_rfl))) ?_)))
  refine va ?_
  refine qk [1, 2, 3, 5, 6] ?_
  refine wQ_then (wC_cond_f rfl (wC_seq (wC_seq (wC_region (vv (v := .bool false) (y_binop rfl rfl rfl (r_seql (by kernel_rfl))) ?_)))))
  refine va ?_
  refine qk [1, 2, 3, 5, 15] ?_
  refine wQ_then (wC_cond_f rfl (wC_region (vv (v := .bool false) (y_binop rfl rfl rfl (r_seql (by kernel_rfl))) ?_)))
  refine va ?_
  refine qk [1, 2, 3, 5, 15] ?_
  refine x_tnsr (vv (v := .bool true) (y_binop rfl rfl rfl (r_seql (by kernel_rfl))) ?_)
  refine va ?_
  refine qk [1, 2, 3, 5, 22] ?_
  refine x_tysr (vv (yfa 1 fa39_1) ?_)
  refine vv (ylc 0 S49 Try.underlying3) ?_
  refine vv (yfa 4 fa39_4) ?_
  refine vv (ylc 0 S49 Try.underlying3) ?_
  refine wL_new (V := fun b => .slice (some ⟨b, 0, none⟩) 2 2) (row := #[.int .i64 x.nd, .int .i64 x.kp]) (t := 3) S49 (wn rfl) rfl rfl (d_buildSlice (vs := [(0, .int .i64 x.nd), (1, .int .i64 x.kp)]) rfl ⟨rfl, rfl, rfl, rfl, trivial⟩ (by kernel_rfl)) ?_; intro b51 w52 S53; clear S49
  refine wL_new (V := fun b => .slice (some ⟨b, 0, none⟩) 2 2) (row := #[.int .i64 4, .int .i64 100000]) (t := 3) S53 (wn rfl) rfl rfl (d_buildSlice (vs := [(0, .int .i64 4), (1, .int .i64 100000)]) rfl ⟨rfl, rfl, rfl, rfl, trivial⟩ (by kernel_rfl)) ?_; intro b54 w55 S56; clear S53
  iterate 2 refine va ?_
  refine qk [2, 3] ?_
  refine x_tech (wQ_post (rs := [.tmp 2, .tmp 3]) (vs := [.slice (some ⟨b51, 0, none⟩) 2 2, .slice (some ⟨b54, 0, none⟩) 2 2]) rfl ⟨rfl, rfl, trivial⟩ ?_)
  have S57 : St _ _ _ [_, _] := S56.dels [2]; clear S56
  have S58 : St w.heap.size w w55 [_, _] := S57.re [1, 0] (by decide); clear S57
  have S9 := St.blkRdo (s := 1) (n := 2) (xs := [.int .i64 x.nd, .int .i64 x.kp]) 0 S58 rfl rfl rfl
  have S10 := St.blkRdo (s := 1) (n := 2) (xs := [.int .i64 4, .int .i64 100000]) 1 S9 rfl rfl rfl
  exact ⟨_, _, rfl, S10⟩
 ·have hl := hf
  simp [formL, hk] at hl
  subst hl
  have HW := fun w => ActWord_calls x w
  rw [show wordOf x.kd x.ek = ⟨#[99, 97, 114, 114, 121]⟩ from by simp [wordOf, hk]] at HW
  refine wC_region (vv (ylr 0 S3 Try.underlying39 inf39) ?_)
  refine cab en110 S3 (HW _) ?_; intro w59 S60; clear S3
  refine qk [1, 2, 3, 5] ?_
  refine wQ_then (wC_block (wC_seq (wC_seq (wC_region (vv (v := .bool false) (y_binop rfl rfl rfl (r_seql (by kernel_rfl))) ?_)))))
  refine va ?_
  refine qk [1, 2, 3, 5, 6] ?_
  refine wQ_then (wC_cond_f rfl (wC_region (vv (v := .bool false) (y_binop rfl rfl rfl (r_seql (by kernel_rfl))) ?_)))
  refine va ?_
  refine qk [1, 2, 3, 5, 6] ?_
  refine wQ_then (wC_cond_f rfl (wC_seq (wC_seq (wC_region (vv (v := .bool false) (y_binop rfl rfl rfl (r_seql (by kernel_rfl))) ?_)))))
  refine va ?_
  refine qk [1, 2, 3, 5, 15] ?_
  refine wQ_then (wC_cond_f rfl (wC_region (vv (v := .bool false) (y_binop rfl rfl rfl (r_seql (by kernel_rfl))) ?_)))
  refine va ?_
  refine qk [1, 2, 3, 5, 15] ?_
  refine x_tnsr (vv (v := .bool false) (y_binop rfl rfl rfl (r_seql (by kernel_rfl))) ?_)
  refine va ?_
  refine qk [1, 2, 3, 5, 22] ?_
  refine wQ_then (wC_cond_f rfl (wC_seq (wC_seq (wC_region (vv (v := .bool true) (y_binop rfl rfl rfl (r_seql (by kernel_rfl))) ?_)))))
  refine va ?_
  refine qk [1, 2, 3, 5, 30] ?_
  refine wQ_then (wC_cond_t rfl (wC_skip (wQ_then (wC_cond_t rfl (wC_seq (wC_region (vv (yfa 3 fa39_3) ?_)))))))
  refine vv (ylc 0 S60 Try.underlying3) ?_
  refine wL_new (V := fun b => .slice (some ⟨b, 0, none⟩) 1 1) (row := #[.int .i64 x.at_]) (t := 3) S60 (wn rfl) rfl rfl (d_buildSlice (vs := [(0, .int .i64 x.at_)]) rfl ⟨rfl, rfl, trivial⟩ (by kernel_rfl)) ?_; intro b62 w63 S64; clear S60
  refine wL_new (V := fun b => .slice (some ⟨b, 0, none⟩) 1 1) (row := #[.int .i64 1048576]) (t := 3) S64 (wn rfl) rfl rfl (d_buildSlice (vs := [(0, .int .i64 1048576)]) rfl ⟨rfl, rfl, trivial⟩ (by kernel_rfl)) ?_; intro b65 w66 S67; clear S64
  iterate 2 refine va ?_
  refine qk [2, 3] ?_
  refine x_tech (wQ_post (rs := [.tmp 2, .tmp 3]) (vs := [.slice (some ⟨b62, 0, none⟩) 1 1, .slice (some ⟨b65, 0, none⟩) 1 1]) rfl ⟨rfl, rfl, trivial⟩ ?_)
  have S68 : St _ _ _ [_, _] := S67.dels [2]; clear S67
  have S69 : St w.heap.size w w66 [_, _] := S68.re [1, 0] (by decide); clear S68
  have S9 := St.blkRdo (s := 1) (n := 1) (xs := [.int .i64 x.at_]) 0 S69 rfl rfl rfl
  have S10 := St.blkRdo (s := 1) (n := 1) (xs := [.int .i64 1048576]) 1 S9 rfl rfl rfl
  exact ⟨_, _, rfl, S10⟩
 ·have hl := hf
  simp [formL, hk] at hl
  subst hl
  have HW := fun w => ActWord_calls x w
  rw [show wordOf x.kd x.ek = ⟨#[108, 111, 115, 101]⟩ from by simp [wordOf, hk]] at HW
  refine wC_region (vv (ylr 0 S3 Try.underlying39 inf39) ?_)
  refine cab en110 S3 (HW _) ?_; intro w70 S71; clear S3
  refine qk [1, 2, 3, 5] ?_
  refine wQ_then (wC_block (wC_seq (wC_seq (wC_region (vv (v := .bool false) (y_binop rfl rfl rfl (r_seql (by kernel_rfl))) ?_)))))
  refine va ?_
  refine qk [1, 2, 3, 5, 6] ?_
  refine wQ_then (wC_cond_f rfl (wC_region (vv (v := .bool false) (y_binop rfl rfl rfl (r_seql (by kernel_rfl))) ?_)))
  refine va ?_
  refine qk [1, 2, 3, 5, 6] ?_
  refine wQ_then (wC_cond_f rfl (wC_seq (wC_seq (wC_region (vv (v := .bool false) (y_binop rfl rfl rfl (r_seql (by kernel_rfl))) ?_)))))
  refine va ?_
  refine qk [1, 2, 3, 5, 15] ?_
  refine wQ_then (wC_cond_f rfl (wC_region (vv (v := .bool false) (y_binop rfl rfl rfl (r_seql (by kernel_rfl))) ?_)))
  refine va ?_
  refine qk [1, 2, 3, 5, 15] ?_
  refine x_tnsr (vv (v := .bool false) (y_binop rfl rfl rfl (r_seql (by kernel_rfl))) ?_)
  refine va ?_
  refine qk [1, 2, 3, 5, 22] ?_
  refine wQ_then (wC_cond_f rfl (wC_seq (wC_seq (wC_region (vv (v := .bool false) (y_binop rfl rfl rfl (r_seql (by kernel_rfl))) ?_)))))
  refine va ?_
  refine qk [1, 2, 3, 5, 30] ?_
  refine x_tnsr (vv (v := .bool true) (y_binop rfl rfl rfl (r_seql (by kernel_rfl))) ?_)
  refine va ?_
  refine qk [1, 2, 3, 5, 30] ?_
  refine wQ_then (wC_cond_t rfl (wC_skip (wQ_then (wC_cond_t rfl (wC_seq (wC_region (vv (yfa 3 fa39_3) ?_)))))))
  refine vv (ylc 0 S71 Try.underlying3) ?_
  refine wL_new (V := fun b => .slice (some ⟨b, 0, none⟩) 1 1) (row := #[.int .i64 x.at_]) (t := 3) S71 (wn rfl) rfl rfl (d_buildSlice (vs := [(0, .int .i64 x.at_)]) rfl ⟨rfl, rfl, trivial⟩ (by kernel_rfl)) ?_; intro b73 w74 S75; clear S71
  refine wL_new (V := fun b => .slice (some ⟨b, 0, none⟩) 1 1) (row := #[.int .i64 1048576]) (t := 3) S75 (wn rfl) rfl rfl (d_buildSlice (vs := [(0, .int .i64 1048576)]) rfl ⟨rfl, rfl, trivial⟩ (by kernel_rfl)) ?_; intro b76 w77 S78; clear S75
  iterate 2 refine va ?_
  refine qk [2, 3] ?_
  refine x_tech (wQ_post (rs := [.tmp 2, .tmp 3]) (vs := [.slice (some ⟨b73, 0, none⟩) 1 1, .slice (some ⟨b76, 0, none⟩) 1 1]) rfl ⟨rfl, rfl, trivial⟩ ?_)
  have S79 : St _ _ _ [_, _] := S78.dels [2]; clear S78
  have S80 : St w.heap.size w w77 [_, _] := S79.re [1, 0] (by decide); clear S79
  have S9 := St.blkRdo (s := 1) (n := 1) (xs := [.int .i64 x.at_]) 0 S80 rfl rfl rfl
  have S10 := St.blkRdo (s := 1) (n := 1) (xs := [.int .i64 1048576]) 1 S9 rfl rfl rfl
  exact ⟨_, _, rfl, S10⟩
 ·have hl := hf
  simp [formL, hk] at hl
  subst hl
  have HW := fun w => ActWord_calls x w
  rw [show wordOf x.kd x.ek = ⟨#[100, 111, 117, 98, 108, 101]⟩ from by simp [wordOf, hk]] at HW
  refine wC_region (vv (ylr 0 S3 Try.underlying39 inf39) ?_)
  refine cab en110 S3 (HW _) ?_; intro w81 S82; clear S3
  refine qk [1, 2, 3, 5] ?_
  refine wQ_then (wC_block (wC_seq (wC_seq (wC_region (vv (v := .bool false) (y_binop rfl rfl rfl (r_seql (by kernel_rfl))) ?_)))))
  refine va ?_
  refine qk [1, 2, 3, 5, 6] ?_
  refine wQ_then (wC_cond_f rfl (wC_region (vv (v := .bool false) (y_binop rfl rfl rfl (r_seql (by kernel_rfl))) ?_)))
  refine va ?_
  refine qk [1, 2, 3, 5, 6] ?_
  refine wQ_then (wC_cond_f rfl (wC_seq (wC_seq (wC_region (vv (v := .bool false) (y_binop rfl rfl rfl (r_seql (by kernel_rfl))) ?_)))))
  refine va ?_
  refine qk [1, 2, 3, 5, 15] ?_
  refine wQ_then (wC_cond_f rfl (wC_region (vv (v := .bool false) (y_binop rfl rfl rfl (r_seql (by kernel_rfl))) ?_)))
  refine va ?_
  refine qk [1, 2, 3, 5, 15] ?_
  refine x_tnsr (vv (v := .bool false) (y_binop rfl rfl rfl (r_seql (by kernel_rfl))) ?_)
  refine va ?_
  refine qk [1, 2, 3, 5, 22] ?_
  refine wQ_then (wC_cond_f rfl (wC_seq (wC_seq (wC_region (vv (v := .bool false) (y_binop rfl rfl rfl (r_seql (by kernel_rfl))) ?_)))))
  refine va ?_
  refine qk [1, 2, 3, 5, 30] ?_
  refine x_tnsr (vv (v := .bool false) (y_binop rfl rfl rfl (r_seql (by kernel_rfl))) ?_)
  refine va ?_
  refine qk [1, 2, 3, 5, 30] ?_
  refine wQ_then (wC_cond_f rfl (wC_region (vv (v := .bool true) (y_binop rfl rfl rfl (r_seql (by kernel_rfl))) ?_)))
  refine va ?_
  refine qk [1, 2, 3, 5, 30] ?_
  refine x_tysr (vv (yfa 3 fa39_3) ?_)
  refine vv (ylc 0 S82 Try.underlying3) ?_
  refine wL_new (V := fun b => .slice (some ⟨b, 0, none⟩) 1 1) (row := #[.int .i64 x.at_]) (t := 3) S82 (wn rfl) rfl rfl (d_buildSlice (vs := [(0, .int .i64 x.at_)]) rfl ⟨rfl, rfl, trivial⟩ (by kernel_rfl)) ?_; intro b84 w85 S86; clear S82
  refine wL_new (V := fun b => .slice (some ⟨b, 0, none⟩) 1 1) (row := #[.int .i64 1048576]) (t := 3) S86 (wn rfl) rfl rfl (d_buildSlice (vs := [(0, .int .i64 1048576)]) rfl ⟨rfl, rfl, trivial⟩ (by kernel_rfl)) ?_; intro b87 w88 S89; clear S86
  iterate 2 refine va ?_
  refine qk [2, 3] ?_
  refine x_tech (wQ_post (rs := [.tmp 2, .tmp 3]) (vs := [.slice (some ⟨b84, 0, none⟩) 1 1, .slice (some ⟨b87, 0, none⟩) 1 1]) rfl ⟨rfl, rfl, trivial⟩ ?_)
  have S90 : St _ _ _ [_, _] := S89.dels [2]; clear S89
  have S91 : St w.heap.size w w88 [_, _] := S90.re [1, 0] (by decide); clear S90
  have S9 := St.blkRdo (s := 1) (n := 1) (xs := [.int .i64 x.at_]) 0 S91 rfl rfl rfl
  have S10 := St.blkRdo (s := 1) (n := 1) (xs := [.int .i64 1048576]) 1 S9 rfl rfl rfl
  exact ⟨_, _, rfl, S10⟩
 ·have hl := hf
  simp [formL, hk] at hl
  subst hl
  have HW := fun w => ActWord_calls x w
  rw [show wordOf x.kd x.ek = ⟨#[97, 108, 108]⟩ from by simp [wordOf, hk]] at HW
  refine wC_region (vv (ylr 0 S3 Try.underlying39 inf39) ?_)
  refine cab en110 S3 (HW _) ?_; intro w92 S93; clear S3
  refine qk [1, 2, 3, 5] ?_
  refine wQ_then (wC_block (wC_seq (wC_seq (wC_region (vv (v := .bool false) (y_binop rfl rfl rfl (r_seql (by kernel_rfl))) ?_)))))
  refine va ?_
  refine qk [1, 2, 3, 5, 6] ?_
  refine wQ_then (wC_cond_f rfl (wC_region (vv (v := .bool false) (y_binop rfl rfl rfl (r_seql (by kernel_rfl))) ?_)))
  refine va ?_
  refine qk [1, 2, 3, 5, 6] ?_
  refine wQ_then (wC_cond_f rfl (wC_seq (wC_seq (wC_region (vv (v := .bool false) (y_binop rfl rfl rfl (r_seql (by kernel_rfl))) ?_)))))
  refine va ?_
  refine qk [1, 2, 3, 5, 15] ?_
  refine wQ_then (wC_cond_f rfl (wC_region (vv (v := .bool false) (y_binop rfl rfl rfl (r_seql (by kernel_rfl))) ?_)))
  refine va ?_
  refine qk [1, 2, 3, 5, 15] ?_
  refine x_tnsr (vv (v := .bool false) (y_binop rfl rfl rfl (r_seql (by kernel_rfl))) ?_)
  refine va ?_
  refine qk [1, 2, 3, 5, 22] ?_
  refine wQ_then (wC_cond_f rfl (wC_seq (wC_seq (wC_region (vv (v := .bool false) (y_binop rfl rfl rfl (r_seql (by kernel_rfl))) ?_)))))
  refine va ?_
  refine qk [1, 2, 3, 5, 30] ?_
  refine x_tnsr (vv (v := .bool false) (y_binop rfl rfl rfl (r_seql (by kernel_rfl))) ?_)
  refine va ?_
  refine qk [1, 2, 3, 5, 30] ?_
  refine wQ_then (wC_cond_f rfl (wC_region (vv (v := .bool false) (y_binop rfl rfl rfl (r_seql (by kernel_rfl))) ?_)))
  refine va ?_
  refine qk [1, 2, 3, 5, 30] ?_
  refine x_tnsr (vv (v := .bool false) (y_binop rfl rfl rfl (r_seql (by kernel_rfl))) ?_)
  refine va ?_
  refine qk [1, 2, 3, 5, 38] ?_
  refine x_tnsr (vv (v := .bool false) (y_binop rfl rfl rfl (r_seql (by kernel_rfl))) ?_)
  refine va ?_
  refine qk [1, 2, 3, 5, 55] ?_
  refine x_tnsr (vv (v := .bool false) (y_binop rfl rfl rfl (r_seql (by kernel_rfl))) ?_)
  refine va ?_
  refine qk [1, 2, 3, 63] ?_
  refine wQ_then (wC_cond_f rfl (wC_skip (wQ_blk_n (wQ_then (wC_seq (wC_region (va ?_)))))))
  refine va ?_
  refine qk [2, 3] ?_
  refine x_te (wQ_post (rs := [.tmp 2, .tmp 3]) (vs := [.slice none 0 0, .slice none 0 0]) rfl ⟨rfl, rfl, trivial⟩ ?_)
  have S95 : St _ _ _ [] := S93.dels [0]; clear S93
  exact ⟨none, none, rfl, rdo_nil (rdo_nil S95)⟩
 ·have hl := hf
  simp [formL, hk, hek] at hl
  subst hl
  have HW := fun w => ActWord_calls x w
  rw [show wordOf x.kd x.ek = ⟨#[112, 117, 98, 108, 105, 115, 104]⟩ from by simp [wordOf, hk, hek]] at HW
  refine wC_region (vv (ylr 0 S3 Try.underlying39 inf39) ?_)
  refine cab en110 S3 (HW _) ?_; intro w96 S97; clear S3
  refine qk [1, 2, 3, 5] ?_
  refine wQ_then (wC_block (wC_seq (wC_seq (wC_region (vv (v := .bool false) (y_binop rfl rfl rfl (r_seql (by kernel_rfl))) ?_)))))
  refine va ?_
  refine qk [1, 2, 3, 5, 6] ?_
  refine wQ_then (wC_cond_f rfl (wC_region (vv (v := .bool false) (y_binop rfl rfl rfl (r_seql (by kernel_rfl))) ?_)))
  refine va ?_
  refine qk [1, 2, 3, 5, 6] ?_
  refine wQ_then (wC_cond_f rfl (wC_seq (wC_seq (wC_region (vv (v := .bool false) (y_binop rfl rfl rfl (r_seql (by kernel_rfl))) ?_)))))
  refine va ?_
  refine qk [1, 2, 3, 5, 15] ?_
  refine wQ_then (wC_cond_f rfl (wC_region (vv (v := .bool false) (y_binop rfl rfl rfl (r_seql (by kernel_rfl))) ?_)))
  refine va ?_
  refine qk [1, 2, 3, 5, 15] ?_
  refine x_tnsr (vv (v := .bool false) (y_binop rfl rfl rfl (r_seql (by kernel_rfl))) ?_)
  refine va ?_
  refine qk [1, 2, 3, 5, 22] ?_
  refine wQ_then (wC_cond_f rfl (wC_seq (wC_seq (wC_region (vv (v := .bool false) (y_binop rfl rfl rfl (r_seql (by kernel_rfl))) ?_)))))
  refine va ?_
  refine qk [1, 2, 3, 5, 30] ?_
  refine x_tnsr (vv (v := .bool false) (y_binop rfl rfl rfl (r_seql (by kernel_rfl))) ?_)
  refine va ?_
  refine qk [1, 2, 3, 5, 30] ?_
  refine wQ_then (wC_cond_f rfl (wC_region (vv (v := .bool false) (y_binop rfl rfl rfl (r_seql (by kernel_rfl))) ?_)))
  refine va ?_
  refine qk [1, 2, 3, 5, 30] ?_
  refine x_tnsr (vv (v := .bool true) (y_binop rfl rfl rfl (r_seql (by kernel_rfl))) ?_)
  refine va ?_
  refine qk [1, 2, 3, 5, 38] ?_
  refine x_tysr (vv (yfa 1 fa39_1) ?_)
  refine vv (ylc 0 S97 Try.underlying3) ?_
  refine vv (yfa 2 fa39_2) ?_
  refine vv (ylc 0 S97 Try.underlying3) ?_
  refine vv (yfa 5 fa39_5) ?_
  refine vv (yfa 6 fa37_1) ?_
  refine vv (ylc 0 S97 Try.underlying3) ?_
  refine vv (yfa 5 fa39_5) ?_
  refine vv (yfa 7 fa37_2) ?_
  refine vv (ylc 0 S97 Try.underlying3) ?_
  refine vv (yfa 5 fa39_5) ?_
  refine vv (yfa 8 fa37_3) ?_
  refine vv (ylc 0 S97 Try.underlying3) ?_
  refine wL_new (V := fun b => .slice (some ⟨b, 0, none⟩) 5 5) (row := #[.int .i64 x.nd, .int .i64 x.qu, .int .i64 x.ep, .int .i64 x.ei, .int .i64 x.eb]) (t := 3) S97 (wn rfl) rfl rfl (d_buildSlice (vs := [(0, .int .i64 x.nd), (1, .int .i64 x.qu), (2, .int .i64 x.ep), (3, .int .i64 x.ei), (4, .int .i64 x.eb)]) rfl ⟨rfl, rfl, rfl, rfl, rfl, rfl, rfl, rfl, rfl, rfl, trivial⟩ (by kernel_rfl)) ?_; intro b99 w100 S101; clear S97
  refine wL_new (V := fun b => .slice (some ⟨b, 0, none⟩) 5 5) (row := #[.int .i64 4, .int .i64 3, .int .i64 3, .int .i64 1073741824, .int .i64 1000000]) (t := 3) S101 (wn rfl) rfl rfl (d_buildSlice (vs := [(0, .int .i64 4), (1, .int .i64 3), (2, .int .i64 3), (3, .int .i64 1073741824), (4, .int .i64 1000000)]) rfl ⟨rfl, rfl, rfl, rfl, rfl, rfl, rfl, rfl, rfl, rfl, trivial⟩ (by kernel_rfl)) ?_; intro b102 w103 S104; clear S101
  iterate 2 refine va ?_
  refine qk [2, 3] ?_
  refine x_tech (wQ_post (rs := [.tmp 2, .tmp 3]) (vs := [.slice (some ⟨b99, 0, none⟩) 5 5, .slice (some ⟨b102, 0, none⟩) 5 5]) rfl ⟨rfl, rfl, trivial⟩ ?_)
  have S105 : St _ _ _ [_, _] := S104.dels [2]; clear S104
  have S106 : St w.heap.size w w103 [_, _] := S105.re [1, 0] (by decide); clear S105
  have S9 := St.blkRdo (s := 1) (n := 5) (xs := [.int .i64 x.nd, .int .i64 x.qu, .int .i64 x.ep, .int .i64 x.ei, .int .i64 x.eb]) 0 S106 rfl rfl rfl
  have S10 := St.blkRdo (s := 1) (n := 5) (xs := [.int .i64 4, .int .i64 3, .int .i64 3, .int .i64 1073741824, .int .i64 1000000]) 1 S9 rfl rfl rfl
  exact ⟨_, _, rfl, S10⟩
 ·have hl := hf
  simp [formL, hk, hek] at hl
  subst hl
  have HW := fun w => ActWord_calls x w
  rw [show wordOf x.kd x.ek = ⟨#[114, 101, 99, 101, 105, 118, 101]⟩ from by simp [wordOf, hk, hek]] at HW
  refine wC_region (vv (ylr 0 S3 Try.underlying39 inf39) ?_)
  refine cab en110 S3 (HW _) ?_; intro w107 S108; clear S3
  refine qk [1, 2, 3, 5] ?_
  refine wQ_then (wC_block (wC_seq (wC_seq (wC_region (vv (v := .bool false) (y_binop rfl rfl rfl (r_seql (by kernel_rfl))) ?_)))))
  refine va ?_
  refine qk [1, 2, 3, 5, 6] ?_
  refine wQ_then (wC_cond_f rfl (wC_region (vv (v := .bool false) (y_binop rfl rfl rfl (r_seql (by kernel_rfl))) ?_)))
  refine va ?_
  refine qk [1, 2, 3, 5, 6] ?_
  refine wQ_then (wC_cond_f rfl (wC_seq (wC_seq (wC_region (vv (v := .bool false) (y_binop rfl rfl rfl (r_seql (by kernel_rfl))) ?_)))))
  refine va ?_
  refine qk [1, 2, 3, 5, 15] ?_
  refine wQ_then (wC_cond_f rfl (wC_region (vv (v := .bool false) (y_binop rfl rfl rfl (r_seql (by kernel_rfl))) ?_)))
  refine va ?_
  refine qk [1, 2, 3, 5, 15] ?_
  refine x_tnsr (vv (v := .bool false) (y_binop rfl rfl rfl (r_seql (by kernel_rfl))) ?_)
  refine va ?_
  refine qk [1, 2, 3, 5, 22] ?_
  refine wQ_then (wC_cond_f rfl (wC_seq (wC_seq (wC_region (vv (v := .bool false) (y_binop rfl rfl rfl (r_seql (by kernel_rfl))) ?_)))))
  refine va ?_
  refine qk [1, 2, 3, 5, 30] ?_
  refine x_tnsr (vv (v := .bool false) (y_binop rfl rfl rfl (r_seql (by kernel_rfl))) ?_)
  refine va ?_
  refine qk [1, 2, 3, 5, 30] ?_
  refine wQ_then (wC_cond_f rfl (wC_region (vv (v := .bool false) (y_binop rfl rfl rfl (r_seql (by kernel_rfl))) ?_)))
  refine va ?_
  refine qk [1, 2, 3, 5, 30] ?_
  refine x_tnsr (vv (v := .bool false) (y_binop rfl rfl rfl (r_seql (by kernel_rfl))) ?_)
  refine va ?_
  refine qk [1, 2, 3, 5, 38] ?_
  refine x_tnsr (vv (v := .bool true) (y_binop rfl rfl rfl (r_seql (by kernel_rfl))) ?_)
  refine va ?_
  refine qk [1, 2, 3, 5, 55] ?_
  refine x_tysr (vv (yfa 1 fa39_1) ?_)
  refine vv (ylc 0 S108 Try.underlying3) ?_
  refine vv (yfa 2 fa39_2) ?_
  refine vv (ylc 0 S108 Try.underlying3) ?_
  refine wL_new (V := fun b => .slice (some ⟨b, 0, none⟩) 2 2) (row := #[.int .i64 x.nd, .int .i64 x.qu]) (t := 3) S108 (wn rfl) rfl rfl (d_buildSlice (vs := [(0, .int .i64 x.nd), (1, .int .i64 x.qu)]) rfl ⟨rfl, rfl, rfl, rfl, trivial⟩ (by kernel_rfl)) ?_; intro b110 w111 S112; clear S108
  refine wL_new (V := fun b => .slice (some ⟨b, 0, none⟩) 2 2) (row := #[.int .i64 4, .int .i64 3]) (t := 3) S112 (wn rfl) rfl rfl (d_buildSlice (vs := [(0, .int .i64 4), (1, .int .i64 3)]) rfl ⟨rfl, rfl, rfl, rfl, trivial⟩ (by kernel_rfl)) ?_; intro b113 w114 S115; clear S112
  iterate 2 refine va ?_
  refine qk [2, 3] ?_
  refine x_tech (wQ_post (rs := [.tmp 2, .tmp 3]) (vs := [.slice (some ⟨b110, 0, none⟩) 2 2, .slice (some ⟨b113, 0, none⟩) 2 2]) rfl ⟨rfl, rfl, trivial⟩ ?_)
  have S116 : St _ _ _ [_, _] := S115.dels [2]; clear S115
  have S117 : St w.heap.size w w114 [_, _] := S116.re [1, 0] (by decide); clear S116
  have S9 := St.blkRdo (s := 1) (n := 2) (xs := [.int .i64 x.nd, .int .i64 x.qu]) 0 S117 rfl rfl rfl
  have S10 := St.blkRdo (s := 1) (n := 2) (xs := [.int .i64 4, .int .i64 3]) 1 S9 rfl rfl rfl
  exact ⟨_, _, rfl, S10⟩
 ·have hl := hf
  simp [formL, hk, hek] at hl
  subst hl
  have HW := fun w => ActWord_calls x w
  rw [show wordOf x.kd x.ek = ⟨#[97, 99, 107]⟩ from by simp [wordOf, hk, hek]] at HW
  refine wC_region (vv (ylr 0 S3 Try.underlying39 inf39) ?_)
  refine cab en110 S3 (HW _) ?_; intro w118 S119; clear S3
  refine qk [1, 2, 3, 5] ?_
  refine wQ_then (wC_block (wC_seq (wC_seq (wC_region (vv (v := .bool false) (y_binop rfl rfl rfl (r_seql (by kernel_rfl))) ?_)))))
  refine va ?_
  refine qk [1, 2, 3, 5, 6] ?_
  refine wQ_then (wC_cond_f rfl (wC_region (vv (v := .bool false) (y_binop rfl rfl rfl (r_seql (by kernel_rfl))) ?_)))
  refine va ?_
  refine qk [1, 2, 3, 5, 6] ?_
  refine wQ_then (wC_cond_f rfl (wC_seq (wC_seq (wC_region (vv (v := .bool false) (y_binop rfl rfl rfl (r_seql (by kernel_rfl))) ?_)))))
  refine va ?_
  refine qk [1, 2, 3, 5, 15] ?_
  refine wQ_then (wC_cond_f rfl (wC_region (vv (v := .bool false) (y_binop rfl rfl rfl (r_seql (by kernel_rfl))) ?_)))
  refine va ?_
  refine qk [1, 2, 3, 5, 15] ?_
  refine x_tnsr (vv (v := .bool false) (y_binop rfl rfl rfl (r_seql (by kernel_rfl))) ?_)
  refine va ?_
  refine qk [1, 2, 3, 5, 22] ?_
  refine wQ_then (wC_cond_f rfl (wC_seq (wC_seq (wC_region (vv (v := .bool false) (y_binop rfl rfl rfl (r_seql (by kernel_rfl))) ?_)))))
  refine va ?_
  refine qk [1, 2, 3, 5, 30] ?_
  refine x_tnsr (vv (v := .bool false) (y_binop rfl rfl rfl (r_seql (by kernel_rfl))) ?_)
  refine va ?_
  refine qk [1, 2, 3, 5, 30] ?_
  refine wQ_then (wC_cond_f rfl (wC_region (vv (v := .bool false) (y_binop rfl rfl rfl (r_seql (by kernel_rfl))) ?_)))
  refine va ?_
  refine qk [1, 2, 3, 5, 30] ?_
  refine x_tnsr (vv (v := .bool false) (y_binop rfl rfl rfl (r_seql (by kernel_rfl))) ?_)
  refine va ?_
  refine qk [1, 2, 3, 5, 38] ?_
  refine x_tnsr (vv (v := .bool false) (y_binop rfl rfl rfl (r_seql (by kernel_rfl))) ?_)
  refine va ?_
  refine qk [1, 2, 3, 5, 55] ?_
  refine x_tnsr (vv (v := .bool true) (y_binop rfl rfl rfl (r_seql (by kernel_rfl))) ?_)
  refine va ?_
  refine qk [1, 2, 3, 63] ?_
  refine x_tysr (vv (yfa 1 fa39_1) ?_)
  refine vv (ylc 0 S119 Try.underlying3) ?_
  refine vv (yfa 2 fa39_2) ?_
  refine vv (ylc 0 S119 Try.underlying3) ?_
  refine vv (yfa 5 fa39_5) ?_
  refine vv (yfa 9 fa37_4) ?_
  refine vv (yfa 9 fa35_0) ?_
  refine vv (ylc 0 S119 Try.underlying3) ?_
  refine vv (yfa 5 fa39_5) ?_
  refine vv (yfa 9 fa37_4) ?_
  refine vv (yfa 10 fa35_1) ?_
  refine vv (ylc 0 S119 Try.underlying3) ?_
  refine wL_new (V := fun b => .slice (some ⟨b, 0, none⟩) 4 4) (row := #[.int .i64 x.nd, .int .i64 x.qu, .int .i64 x.eh, .int .i64 x.en]) (t := 3) S119 (wn rfl) rfl rfl (d_buildSlice (vs := [(0, .int .i64 x.nd), (1, .int .i64 x.qu), (2, .int .i64 x.eh), (3, .int .i64 x.en)]) rfl ⟨rfl, rfl, rfl, rfl, rfl, rfl, rfl, rfl, trivial⟩ (by kernel_rfl)) ?_; intro b121 w122 S123; clear S119
  refine wL_new (V := fun b => .slice (some ⟨b, 0, none⟩) 4 4) (row := #[.int .i64 4, .int .i64 3, .int .i64 1048576, .int .i64 1073741824]) (t := 3) S123 (wn rfl) rfl rfl (d_buildSlice (vs := [(0, .int .i64 4), (1, .int .i64 3), (2, .int .i64 1048576), (3, .int .i64 1073741824)]) rfl ⟨rfl, rfl, rfl, rfl, rfl, rfl, rfl, rfl, trivial⟩ (by kernel_rfl)) ?_; intro b124 w125 S126; clear S123
  iterate 2 refine va ?_
  refine qk [2, 3] ?_
  refine x_tech (wQ_post (rs := [.tmp 2, .tmp 3]) (vs := [.slice (some ⟨b121, 0, none⟩) 4 4, .slice (some ⟨b124, 0, none⟩) 4 4]) rfl ⟨rfl, rfl, trivial⟩ ?_)
  have S127 : St _ _ _ [_, _] := S126.dels [2]; clear S126
  have S128 : St w.heap.size w w125 [_, _] := S127.re [1, 0] (by decide); clear S127
  have S9 := St.blkRdo (s := 1) (n := 4) (xs := [.int .i64 x.nd, .int .i64 x.qu, .int .i64 x.eh, .int .i64 x.en]) 0 S128 rfl rfl rfl
  have S10 := St.blkRdo (s := 1) (n := 4) (xs := [.int .i64 4, .int .i64 3, .int .i64 1048576, .int .i64 1073741824]) 1 S9 rfl rfl rfl
  exact ⟨_, _, rfl, S10⟩
 ·rw [hn] at hf; cases hf
end Go.Proofs.Ytkjlafpafmihaaa

namespace Go.Proofs.Ytkjlafpafmihaaa
open Go.ChangeShapes Go.WideShapes Go.RowKit

set_option maxRecDepth 100000 in
set_option maxHeartbeats 8000000 in
theorem actOf_calls (x : Ac) (l : List (Nat × Int)) (hf : formL x.kd x.ek = some l) (A : Option Addr) (c : Nat) (w : World) (h : Rd w w.heap.size 1 A l.length (l.flatMap (valC x))) :
    Calls Try.prog 112 #[.agg #[.int .i64 x.kd, .int .i64 x.nd, .int .i64 x.qu, .int .i64 x.at_, .int .i64 x.kp, .int .i64 x.ek, .int .i64 x.ep, .int .i64 x.ei, .int .i64 x.eb, .int .i64 x.eh, .int .i64 x.en], .slice A l.length c] w (AcPost w (keep x)) := by
 have S := (St.start w).addRd h; clear h
 refine fnw 99 Try.func112 ?_
 refine cw [0, 1] ?_
 refine x_sr (nb (row := #[.int .i64 x.kd, .int .i64 x.nd, .int .i64 x.qu, .int .i64 x.at_, .int .i64 x.kp, .int .i64 x.ek, .int .i64 x.ep, .int .i64 x.ei, .int .i64 x.eb, .int .i64 x.eh, .int .i64 x.en]) S ?_); intro b1 w2 S3; clear S
 refine na (row := #[.int .i64 0, .int .i64 0, .int .i64 0, .int .i64 0, .int .i64 0, .int .i64 0, .int .i64 0, .int .i64 0, .int .i64 0, .int .i64 0, .int .i64 0]) S3 Try.zeroValue39 ?_; intro b4 w5 S6; clear S3
 refine qk [1, 2, 4] ?_
 refine x_tsr (vv (yfa 0 fa39_0) ?_)
 refine vv (ylc 1 S6 Try.underlying3) ?_
 refine vv (yfa 5 fa39_5) ?_
 refine vv (yfa 5 fa37_0) ?_
 refine vv (ylc 1 S6 Try.underlying3) ?_
 refine vv (v := .agg #[.int .i64 x.ek, .int .i64 0, .int .i64 0, .int .i64 0, .int .i64 0, .int .i64 0]) (y_build (vs := [(0, .int .i64 x.ek)]) rfl ⟨rfl, rfl, trivial⟩ (by kernel_rfl)) ?_
 refine vv (v := .agg #[.int .i64 x.kd, .int .i64 0, .int .i64 0, .int .i64 0, .int .i64 0, .int .i64 x.ek, .int .i64 0, .int .i64 0, .int .i64 0, .int .i64 0, .int .i64 0]) (y_build (vs := [(0, .int .i64 x.kd), (5, .agg #[.int .i64 x.ek, .int .i64 0, .int .i64 0, .int .i64 0, .int .i64 0, .int .i64 0])]) rfl ⟨rfl, rfl, rfl, rfl, trivial⟩ (by kernel_rfl)) ?_
 refine na (row := #[.int .i64 0, .int .i64 0, .int .i64 0, .int .i64 0, .int .i64 0, .int .i64 0, .int .i64 0, .int .i64 0, .int .i64 0, .int .i64 0, .int .i64 0]) S6 Try.zeroValue39 ?_; intro b7 w8 S9; clear S6
 refine sa 0 S9 inf39 ?_; intro w10 S11; clear S9
 refine qk [1, 2, 4, 5] ?_
 refine wQ_then (wC_seq (wC_seq ?_))
 rcases kinds x.kd x.ek with hk | hk | hk | hk | hk | hk | hk | hk | hk | ⟨hk, hek⟩ | ⟨hk, hek⟩ | ⟨hk, hek⟩ | hn
 ·have hl := hf
  simp [formL, hk] at hl
  subst hl
  have HW := fun w => ActWord_calls x w
  rw [show wordOf x.kd x.ek = ⟨#[109, 97, 107, 101]⟩ from by simp [wordOf, hk]] at HW
  refine wC_region (vv (ylr 2 S11 Try.underlying39 inf39) ?_)
  refine cab en110 S11 (HW _) ?_; intro w12 S13; clear S11
  refine qk [1, 2, 4, 5, 14] ?_
  refine wQ_then (wC_block (wC_seq (wC_seq (wC_region (vv (v := .bool true) (y_binop rfl rfl rfl (r_seql (by kernel_rfl))) ?_)))))
  refine va ?_
  refine qk [1, 2, 4, 5, 14, 15] ?_
  refine wQ_then (wC_cond_t rfl (wC_skip (wQ_then (wC_cond_t rfl (wC_seq (wC_region (vm ?_)))))))
  obtain ⟨b15, o16, rfl⟩ := Rd.addr (St.rd 3 S13 rfl) (by decide)
  refine vv (v := .pointer (some ⟨b15, o16 + 0, none⟩)) (y_indexAddr rfl rfl rfl (r_indexAddr 0 Try.underlying143 inf3 rfl (by decide))) ?_
  refine vv (v := .int .i64 x.qu) (y_load rfl rfl (r_load Try.underlying3 rfl (Rd.cl (j := 0) (St.rd 3 S13 rfl) rfl))) ?_
  refine vv (yfa 2 fa39_2) ?_
  refine sr (row' := #[.int .i64 x.kd, .int .i64 0, .int .i64 x.qu, .int .i64 0, .int .i64 0, .int .i64 x.ek, .int .i64 0, .int .i64 0, .int .i64 0, .int .i64 0, .int .i64 0]) 0 S13 inf3 ?_; intro w17 S18; clear S13
  refine qk [1, 2, 4, 5] ?_
  refine x_tr (vm ?_)
  refine vv (v := .pointer (some ⟨b15, o16 + 1, none⟩)) (y_indexAddr rfl rfl rfl (r_indexAddr 1 Try.underlying143 inf3 rfl (by decide))) ?_
  refine vv (v := .int .i64 x.nd) (y_load rfl rfl (r_load Try.underlying3 rfl (Rd.cl (j := 1) (St.rd 3 S18 rfl) rfl))) ?_
  refine vv (yfa 1 fa39_1) ?_
  refine sr (row' := #[.int .i64 x.kd, .int .i64 x.nd, .int .i64 x.qu, .int .i64 0, .int .i64 0, .int .i64 x.ek, .int .i64 0, .int .i64 0, .int .i64 0, .int .i64 0, .int .i64 0]) 0 S18 inf3 ?_; intro w19 S20; clear S18
  refine qk [1, 2, 4, 5] ?_
  refine x_utssr (vv (ylr 2 S20 Try.underlying39 inf39) ?_)
  refine cab en110 S20 (HW _) ?_; intro w21 S22; clear S20
  refine vv (v := .bool false) (y_binop rfl rfl rfl (r_seql (by kernel_rfl))) ?_
  refine qk [1, 2, 4, 5, 65] ?_
  refine x_tnktssr (vv (ylr 2 S22 Try.underlying39 inf39) ?_)
  refine cab en110 S22 (HW _) ?_; intro w24 S25; clear S22
  refine vv (v := .bool false) (y_binop rfl rfl rfl (r_seql (by kernel_rfl))) ?_
  refine qk [1, 4, 5, 83] ?_
  refine x_tnktssr (vv (yfa 0 fa39_0) ?_)
  refine vv (ylc 0 S25 Try.underlying3) ?_
  refine vv (dneqT (h := by omega)) ?_
  refine qk [4, 5, 95] ?_
  refine wQ_then (wC_cond_t rfl (wC_region (vv (yfa 5 fa39_5) ?_)))
  refine vv (yfa 5 fa37_0) ?_
  refine sr (row' := #[.int .i64 x.kd, .int .i64 x.nd, .int .i64 x.qu, .int .i64 0, .int .i64 0, .int .i64 0, .int .i64 0, .int .i64 0, .int .i64 0, .int .i64 0, .int .i64 0]) 0 S25 inf3 ?_; intro w27 S28; clear S25
  refine qk [4, 5] ?_
  refine x_tsr (vv (ylr 0 S28 Try.underlying39 inf39) ?_)
  refine sa 1 S28 inf39 ?_; intro w29 S30; clear S28
  refine qk [4] ?_
  refine x_te (wQ_post (rs := [.cell 4 39]) (vs := [.agg #[.int .i64 x.kd, .int .i64 x.nd, .int .i64 x.qu, .int .i64 0, .int .i64 0, .int .i64 0, .int .i64 0, .int .i64 0, .int .i64 0, .int .i64 0, .int .i64 0]]) rfl ⟨⟨_, rfl, res_row 1 S30 rfl Try.underlying39 rfl inf39⟩, trivial⟩ ?_)
  rw [show keep x = ⟨x.kd, x.nd, x.qu, 0, 0, 0, 0, 0, 0, 0, 0⟩ from by simp [keep, hk]]
  exact ⟨rfl, S30.low⟩
 ·have hl := hf
  simp [formL, hk] at hl
  subst hl
  have HW := fun w => ActWord_calls x w
  rw [show wordOf x.kd x.ek = ⟨#[109, 111, 118, 101]⟩ from by simp [wordOf, hk]] at HW
  refine wC_region (vv (ylr 2 S11 Try.underlying39 inf39) ?_)
  refine cab en110 S11 (HW _) ?_; intro w31 S32; clear S11
  refine qk [1, 2, 4, 5, 14] ?_
  refine wQ_then (wC_block (wC_seq (wC_seq (wC_region (vv (v := .bool false) (y_binop rfl rfl rfl (r_seql (by kernel_rfl))) ?_)))))
  refine va ?_
  refine qk [1, 2, 4, 5, 14, 15] ?_
  refine wQ_then (wC_cond_f rfl (wC_region (vv (v := .bool true) (y_binop rfl rfl rfl (r_seql (by kernel_rfl))) ?_)))
  refine va ?_
  refine qk [1, 2, 4, 5, 14, 15] ?_
  refine x_tysr (vm ?_)
  obtain ⟨b34, o35, rfl⟩ := Rd.addr (St.rd 3 S32 rfl) (by decide)
  refine vv (v := .pointer (some ⟨b34, o35 + 0, none⟩)) (y_indexAddr rfl rfl rfl (r_indexAddr 0 Try.underlying143 inf3 rfl (by decide))) ?_
  refine vv (v := .int .i64 x.qu) (y_load rfl rfl (r_load Try.underlying3 rfl (Rd.cl (j := 0) (St.rd 3 S32 rfl) rfl))) ?_
  refine vv (yfa 2 fa39_2) ?_
  refine sr (row' := #[.int .i64 x.kd, .int .i64 0, .int .i64 x.qu, .int .i64 0, .int .i64 0, .int .i64 x.ek, .int .i64 0, .int .i64 0, .int .i64 0, .int .i64 0, .int .i64 0]) 0 S32 inf3 ?_; intro w36 S37; clear S32
  refine qk [1, 2, 4, 5] ?_
  refine x_tr (vm ?_)
  refine vv (v := .pointer (some ⟨b34, o35 + 1, none⟩)) (y_indexAddr rfl rfl rfl (r_indexAddr 1 Try.underlying143 inf3 rfl (by decide))) ?_
  refine vv (v := .int .i64 x.nd) (y_load rfl rfl (r_load Try.underlying3 rfl (Rd.cl (j := 1) (St.rd 3 S37 rfl) rfl))) ?_
  refine vv (yfa 1 fa39_1) ?_
  refine sr (row' := #[.int .i64 x.kd, .int .i64 x.nd, .int .i64 x.qu, .int .i64 0, .int .i64 0, .int .i64 x.ek, .int .i64 0, .int .i64 0, .int .i64 0, .int .i64 0, .int .i64 0]) 0 S37 inf3 ?_; intro w38 S39; clear S37
  refine qk [1, 2, 4, 5] ?_
  refine x_utssr (vv (ylr 2 S39 Try.underlying39 inf39) ?_)
  refine cab en110 S39 (HW _) ?_; intro w40 S41; clear S39
  refine vv (v := .bool false) (y_binop rfl rfl rfl (r_seql (by kernel_rfl))) ?_
  refine qk [1, 2, 4, 5, 65] ?_
  refine x_tnktssr (vv (ylr 2 S41 Try.underlying39 inf39) ?_)
  refine cab en110 S41 (HW _) ?_; intro w43 S44; clear S41
  refine vv (v := .bool false) (y_binop rfl rfl rfl (r_seql (by kernel_rfl))) ?_
  refine qk [1, 4, 5, 83] ?_
  refine x_tnktssr (vv (yfa 0 fa39_0) ?_)
  refine vv (ylc 0 S44 Try.underlying3) ?_
  refine vv (dneqT (h := by omega)) ?_
  refine qk [4, 5, 95] ?_
  refine wQ_then (wC_cond_t rfl (wC_region (vv (yfa 5 fa39_5) ?_)))
  refine vv (yfa 5 fa37_0) ?_
  refine sr (row' := #[.int .i64 x.kd, .int .i64 x.nd, .int .i64 x.qu, .int .i64 0, .int .i64 0, .int .i64 0, .int .i64 0, .int .i64 0, .int .i64 0, .int .i64 0, .int .i64 0]) 0 S44 inf3 ?_; intro w46 S47; clear S44
  refine qk [4, 5] ?_
  refine x_tsr (vv (ylr 0 S47 Try.underlying39 inf39) ?_)
  refine sa 1 S47 inf39 ?_; intro w48 S49; clear S47
  refine qk [4] ?_
  refine x_te (wQ_post (rs := [.cell 4 39]) (vs := [.agg #[.int .i64 x.kd, .int .i64 x.nd, .int .i64 x.qu, .int .i64 0, .int .i64 0, .int .i64 0, .int .i64 0, .int .i64 0, .int .i64 0, .int .i64 0, .int .i64 0]]) rfl ⟨⟨_, rfl, res_row 1 S49 rfl Try.underlying39 rfl inf39⟩, trivial⟩ ?_)
  rw [show keep x = ⟨x.kd, x.nd, x.qu, 0, 0, 0, 0, 0, 0, 0, 0⟩ from by simp [keep, hk]]
  exact ⟨rfl, S49.low⟩
 ·have hl := hf
  simp [formL, hk] at hl
  subst hl
  have HW := fun w => ActWord_calls x w
  rw [show wordOf x.kd x.ek = ⟨#[115, 116, 101, 112]⟩ from by simp [wordOf, hk]] at HW
  refine wC_region (vv (ylr 2 S11 Try.underlying39 inf39) ?_)
  refine cab en110 S11 (HW _) ?_; intro w50 S51; clear S11
  refine qk [1, 2, 4, 5, 14] ?_
  refine wQ_then (wC_block (wC_seq (wC_seq (wC_region (vv (v := .bool false) (y_binop rfl rfl rfl (r_seql (by kernel_rfl))) ?_)))))
  refine va ?_
  refine qk [1, 2, 4, 5, 14, 15] ?_
  refine wQ_then (wC_cond_f rfl (wC_region (vv (v := .bool false) (y_binop rfl rfl rfl (r_seql (by kernel_rfl))) ?_)))
  refine va ?_
  refine qk [1, 2, 4, 5, 14, 15] ?_
  refine wQ_then (wC_cond_f rfl (wC_seq (wC_seq (wC_region (vv (v := .bool true) (y_binop rfl rfl rfl (r_seql (by kernel_rfl))) ?_)))))
  refine va ?_
  refine qk [1, 2, 4, 5, 14, 26] ?_
  refine wQ_then (wC_cond_t rfl (wC_skip (wQ_then (wC_cond_t rfl (wC_region (vm ?_))))))
  obtain ⟨b53, o54, rfl⟩ := Rd.addr (St.rd 3 S51 rfl) (by decide)
  refine vv (v := .pointer (some ⟨b53, o54 + 0, none⟩)) (y_indexAddr rfl rfl rfl (r_indexAddr 0 Try.underlying143 inf3 rfl (by decide))) ?_
  refine vv (v := .int .i64 x.nd) (y_load rfl rfl (r_load Try.underlying3 rfl (Rd.cl (j := 0) (St.rd 3 S51 rfl) rfl))) ?_
  refine vv (yfa 1 fa39_1) ?_
  refine sr (row' := #[.int .i64 x.kd, .int .i64 x.nd, .int .i64 0, .int .i64 0, .int .i64 0, .int .i64 x.ek, .int .i64 0, .int .i64 0, .int .i64 0, .int .i64 0, .int .i64 0]) 0 S51 inf3 ?_; intro w55 S56; clear S51
  refine qk [1, 2, 4, 5] ?_
  refine x_utssr (vv (ylr 2 S56 Try.underlying39 inf39) ?_)
  refine cab en110 S56 (HW _) ?_; intro w57 S58; clear S56
  refine vv (v := .bool false) (y_binop rfl rfl rfl (r_seql (by kernel_rfl))) ?_
  refine qk [1, 2, 4, 5, 65] ?_
  refine x_tnktssr (vv (ylr 2 S58 Try.underlying39 inf39) ?_)
  refine cab en110 S58 (HW _) ?_; intro w60 S61; clear S58
  refine vv (v := .bool false) (y_binop rfl rfl rfl (r_seql (by kernel_rfl))) ?_
  refine qk [1, 4, 5, 83] ?_
  refine x_tnktssr (vv (yfa 0 fa39_0) ?_)
  refine vv (ylc 0 S61 Try.underlying3) ?_
  refine vv (dneqT (h := by omega)) ?_
  refine qk [4, 5, 95] ?_
  refine wQ_then (wC_cond_t rfl (wC_region (vv (yfa 5 fa39_5) ?_)))
  refine vv (yfa 5 fa37_0) ?_
  refine sr (row' := #[.int .i64 x.kd, .int .i64 x.nd, .int .i64 0, .int .i64 0, .int .i64 0, .int .i64 0, .int .i64 0, .int .i64 0, .int .i64 0, .int .i64 0, .int .i64 0]) 0 S61 inf3 ?_; intro w63 S64; clear S61
  refine qk [4, 5] ?_
  refine x_tsr (vv (ylr 0 S64 Try.underlying39 inf39) ?_)
  refine sa 1 S64 inf39 ?_; intro w65 S66; clear S64
  refine qk [4] ?_
  refine x_te (wQ_post (rs := [.cell 4 39]) (vs := [.agg #[.int .i64 x.kd, .int .i64 x.nd, .int .i64 0, .int .i64 0, .int .i64 0, .int .i64 0, .int .i64 0, .int .i64 0, .int .i64 0, .int .i64 0, .int .i64 0]]) rfl ⟨⟨_, rfl, res_row 1 S66 rfl Try.underlying39 rfl inf39⟩, trivial⟩ ?_)
  rw [show keep x = ⟨x.kd, x.nd, 0, 0, 0, 0, 0, 0, 0, 0, 0⟩ from by simp [keep, hk]]
  exact ⟨rfl, S66.low⟩
 ·have hl := hf
  simp [formL, hk] at hl
  subst hl
  have HW := fun w => ActWord_calls x w
  rw [show wordOf x.kd x.ek = ⟨#[115, 116, 97, 114, 116]⟩ from by simp [wordOf, hk]] at HW
  refine wC_region (vv (ylr 2 S11 Try.underlying39 inf39) ?_)
  refine cab en110 S11 (HW _) ?_; intro w67 S68; clear S11
  refine qk [1, 2, 4, 5, 14] ?_
  refine wQ_then (wC_block (wC_seq (wC_seq (wC_region (vv (v := .bool false) (y_binop rfl rfl rfl (r_seql (by kernel_rfl))) ?_)))))
  refine va ?_
  refine qk [1, 2, 4, 5, 14, 15] ?_
  refine wQ_then (wC_cond_f rfl (wC_region (vv (v := .bool false) (y_binop rfl rfl rfl (r_seql (by kernel_rfl))) ?_)))
  refine va ?_
  refine qk [1, 2, 4, 5, 14, 15] ?_
  refine wQ_then (wC_cond_f rfl (wC_seq (wC_seq (wC_region (vv (v := .bool false) (y_binop rfl rfl rfl (r_seql (by kernel_rfl))) ?_)))))
  refine va ?_
  refine qk [1, 2, 4, 5, 14, 26] ?_
  refine wQ_then (wC_cond_f rfl (wC_region (vv (v := .bool true) (y_binop rfl rfl rfl (r_seql (by kernel_rfl))) ?_)))
  refine va ?_
  refine qk [1, 2, 4, 5, 14, 26] ?_
  refine wQ_then (wC_cond_t rfl (wC_region (vm ?_)))
  obtain ⟨b70, o71, rfl⟩ := Rd.addr (St.rd 3 S68 rfl) (by decide)
  refine vv (v := .pointer (some ⟨b70, o71 + 0, none⟩)) (y_indexAddr rfl rfl rfl (r_indexAddr 0 Try.underlying143 inf3 rfl (by decide))) ?_
  refine vv (v := .int .i64 x.nd) (y_load rfl rfl (r_load Try.underlying3 rfl (Rd.cl (j := 0) (St.rd 3 S68 rfl) rfl))) ?_
  refine vv (yfa 1 fa39_1) ?_
  refine sr (row' := #[.int .i64 x.kd, .int .i64 x.nd, .int .i64 0, .int .i64 0, .int .i64 0, .int .i64 x.ek, .int .i64 0, .int .i64 0, .int .i64 0, .int .i64 0, .int .i64 0]) 0 S68 inf3 ?_; intro w72 S73; clear S68
  refine qk [1, 2, 4, 5] ?_
  refine x_utssr (vv (ylr 2 S73 Try.underlying39 inf39) ?_)
  refine cab en110 S73 (HW _) ?_; intro w74 S75; clear S73
  refine vv (v := .bool false) (y_binop rfl rfl rfl (r_seql (by kernel_rfl))) ?_
  refine qk [1, 2, 4, 5, 65] ?_
  refine x_tnktssr (vv (ylr 2 S75 Try.underlying39 inf39) ?_)
  refine cab en110 S75 (HW _) ?_; intro w77 S78; clear S75
  refine vv (v := .bool false) (y_binop rfl rfl rfl (r_seql (by kernel_rfl))) ?_
  refine qk [1, 4, 5, 83] ?_
  refine x_tnktssr (vv (yfa 0 fa39_0) ?_)
  refine vv (ylc 0 S78 Try.underlying3) ?_
  refine vv (dneqT (h := by omega)) ?_
  refine qk [4, 5, 95] ?_
  refine wQ_then (wC_cond_t rfl (wC_region (vv (yfa 5 fa39_5) ?_)))
  refine vv (yfa 5 fa37_0) ?_
  refine sr (row' := #[.int .i64 x.kd, .int .i64 x.nd, .int .i64 0, .int .i64 0, .int .i64 0, .int .i64 0, .int .i64 0, .int .i64 0, .int .i64 0, .int .i64 0, .int .i64 0]) 0 S78 inf3 ?_; intro w80 S81; clear S78
  refine qk [4, 5] ?_
  refine x_tsr (vv (ylr 0 S81 Try.underlying39 inf39) ?_)
  refine sa 1 S81 inf39 ?_; intro w82 S83; clear S81
  refine qk [4] ?_
  refine x_te (wQ_post (rs := [.cell 4 39]) (vs := [.agg #[.int .i64 x.kd, .int .i64 x.nd, .int .i64 0, .int .i64 0, .int .i64 0, .int .i64 0, .int .i64 0, .int .i64 0, .int .i64 0, .int .i64 0, .int .i64 0]]) rfl ⟨⟨_, rfl, res_row 1 S83 rfl Try.underlying39 rfl inf39⟩, trivial⟩ ?_)
  rw [show keep x = ⟨x.kd, x.nd, 0, 0, 0, 0, 0, 0, 0, 0, 0⟩ from by simp [keep, hk]]
  exact ⟨rfl, S83.low⟩
 ·have hl := hf
  simp [formL, hk] at hl
  subst hl
  have HW := fun w => ActWord_calls x w
  rw [show wordOf x.kd x.ek = ⟨#[99, 114, 97, 115, 104]⟩ from by simp [wordOf, hk]] at HW
  refine wC_region (vv (ylr 2 S11 Try.underlying39 inf39) ?_)
  refine cab en110 S11 (HW _) ?_; intro w84 S85; clear S11
  refine qk [1, 2, 4, 5, 14] ?_
  refine wQ_then (wC_block (wC_seq (wC_seq (wC_region (vv (v := .bool false) (y_binop rfl rfl rfl (r_seql (by kernel_rfl))) ?_)))))
  refine va ?_
  refine qk [1, 2, 4, 5, 14, 15] ?_
  refine wQ_then (wC_cond_f rfl (wC_region (vv (v := .bool false) (y_binop rfl rfl rfl (r_seql (by kernel_rfl))) ?_)))
  refine va ?_
  refine qk [1, 2, 4, 5, 14, 15] ?_
  refine wQ_then (wC_cond_f rfl (wC_seq (wC_seq (wC_region (vv (v := .bool false) (y_binop rfl rfl rfl (r_seql (by kernel_rfl))) ?_)))))
  refine va ?_
  refine qk [1, 2, 4, 5, 14, 26] ?_
  refine wQ_then (wC_cond_f rfl (wC_region (vv (v := .bool false) (y_binop rfl rfl rfl (r_seql (by kernel_rfl))) ?_)))
  refine va ?_
  refine qk [1, 2, 4, 5, 14, 26] ?_
  refine x_tnsr (vv (v := .bool true) (y_binop rfl rfl rfl (r_seql (by kernel_rfl))) ?_)
  refine va ?_
  refine qk [1, 2, 4, 5, 14, 33] ?_
  refine x_tysr (vm ?_)
  obtain ⟨b87, o88, rfl⟩ := Rd.addr (St.rd 3 S85 rfl) (by decide)
  refine vv (v := .pointer (some ⟨b87, o88 + 0, none⟩)) (y_indexAddr rfl rfl rfl (r_indexAddr 0 Try.underlying143 inf3 rfl (by decide))) ?_
  refine vv (v := .int .i64 x.nd) (y_load rfl rfl (r_load Try.underlying3 rfl (Rd.cl (j := 0) (St.rd 3 S85 rfl) rfl))) ?_
  refine vv (yfa 1 fa39_1) ?_
  refine sr (row' := #[.int .i64 x.kd, .int .i64 x.nd, .int .i64 0, .int .i64 0, .int .i64 0, .int .i64 x.ek, .int .i64 0, .int .i64 0, .int .i64 0, .int .i64 0, .int .i64 0]) 0 S85 inf3 ?_; intro w89 S90; clear S85
  refine qk [1, 2, 4, 5] ?_
  refine x_tr (vm ?_)
  refine vv (v := .pointer (some ⟨b87, o88 + 1, none⟩)) (y_indexAddr rfl rfl rfl (r_indexAddr 1 Try.underlying143 inf3 rfl (by decide))) ?_
  refine vv (v := .int .i64 x.kp) (y_load rfl rfl (r_load Try.underlying3 rfl (Rd.cl (j := 1) (St.rd 3 S90 rfl) rfl))) ?_
  refine vv (yfa 4 fa39_4) ?_
  refine sr (row' := #[.int .i64 x.kd, .int .i64 x.nd, .int .i64 0, .int .i64 0, .int .i64 x.kp, .int .i64 x.ek, .int .i64 0, .int .i64 0, .int .i64 0, .int .i64 0, .int .i64 0]) 0 S90 inf3 ?_; intro w91 S92; clear S90
  refine qk [1, 2, 4, 5] ?_
  refine x_utssr (vv (ylr 2 S92 Try.underlying39 inf39) ?_)
  refine cab en110 S92 (HW _) ?_; intro w93 S94; clear S92
  refine vv (v := .bool false) (y_binop rfl rfl rfl (r_seql (by kernel_rfl))) ?_
  refine qk [1, 2, 4, 5, 65] ?_
  refine x_tnktssr (vv (ylr 2 S94 Try.underlying39 inf39) ?_)
  refine cab en110 S94 (HW _) ?_; intro w96 S97; clear S94
  refine vv (v := .bool false) (y_binop rfl rfl rfl (r_seql (by kernel_rfl))) ?_
  refine qk [1, 4, 5, 83] ?_
  refine x_tnktssr (vv (yfa 0 fa39_0) ?_)
  refine vv (ylc 0 S97 Try.underlying3) ?_
  refine vv (dneqT (h := by omega)) ?_
  refine qk [4, 5, 95] ?_
  refine wQ_then (wC_cond_t rfl (wC_region (vv (yfa 5 fa39_5) ?_)))
  refine vv (yfa 5 fa37_0) ?_
  refine sr (row' := #[.int .i64 x.kd, .int .i64 x.nd, .int .i64 0, .int .i64 0, .int .i64 x.kp, .int .i64 0, .int .i64 0, .int .i64 0, .int .i64 0, .int .i64 0, .int .i64 0]) 0 S97 inf3 ?_; intro w99 S100; clear S97
  refine qk [4, 5] ?_
  refine x_tsr (vv (ylr 0 S100 Try.underlying39 inf39) ?_)
  refine sa 1 S100 inf39 ?_; intro w101 S102; clear S100
  refine qk [4] ?_
  refine x_te (wQ_post (rs := [.cell 4 39]) (vs := [.agg #[.int .i64 x.kd, .int .i64 x.nd, .int .i64 0, .int .i64 0, .int .i64 x.kp, .int .i64 0, .int .i64 0, .int .i64 0, .int .i64 0, .int .i64 0, .int .i64 0]]) rfl ⟨⟨_, rfl, res_row 1 S102 rfl Try.underlying39 rfl inf39⟩, trivial⟩ ?_)
  rw [show keep x = ⟨x.kd, x.nd, 0, 0, x.kp, 0, 0, 0, 0, 0, 0⟩ from by simp [keep, hk]]
  exact ⟨rfl, S102.low⟩
 ·have hl := hf
  simp [formL, hk] at hl
  subst hl
  have HW := fun w => ActWord_calls x w
  rw [show wordOf x.kd x.ek = ⟨#[99, 97, 114, 114, 121]⟩ from by simp [wordOf, hk]] at HW
  refine wC_region (vv (ylr 2 S11 Try.underlying39 inf39) ?_)
  refine cab en110 S11 (HW _) ?_; intro w103 S104; clear S11
  refine qk [1, 2, 4, 5, 14] ?_
  refine wQ_then (wC_block (wC_seq (wC_seq (wC_region (vv (v := .bool false) (y_binop rfl rfl rfl (r_seql (by kernel_rfl))) ?_)))))
  refine va ?_
  refine qk [1, 2, 4, 5, 14, 15] ?_
  refine wQ_then (wC_cond_f rfl (wC_region (vv (v := .bool false) (y_binop rfl rfl rfl (r_seql (by kernel_rfl))) ?_)))
  refine va ?_
  refine qk [1, 2, 4, 5, 14, 15] ?_
  refine wQ_then (wC_cond_f rfl (wC_seq (wC_seq (wC_region (vv (v := .bool false) (y_binop rfl rfl rfl (r_seql (by kernel_rfl))) ?_)))))
  refine va ?_
  refine qk [1, 2, 4, 5, 14, 26] ?_
  refine wQ_then (wC_cond_f rfl (wC_region (vv (v := .bool false) (y_binop rfl rfl rfl (r_seql (by kernel_rfl))) ?_)))
  refine va ?_
  refine qk [1, 2, 4, 5, 14, 26] ?_
  refine x_tnsr (vv (v := .bool false) (y_binop rfl rfl rfl (r_seql (by kernel_rfl))) ?_)
  refine va ?_
  refine qk [1, 2, 4, 5, 14, 33] ?_
  refine wQ_then (wC_cond_f rfl (wC_seq (wC_seq (wC_region (vv (v := .bool true) (y_binop rfl rfl rfl (r_seql (by kernel_rfl))) ?_)))))
  refine va ?_
  refine qk [1, 2, 4, 5, 14, 43] ?_
  refine wQ_then (wC_cond_t rfl (wC_skip (wQ_then (wC_cond_t rfl (wC_region (vm ?_))))))
  obtain ⟨b106, o107, rfl⟩ := Rd.addr (St.rd 3 S104 rfl) (by decide)
  refine vv (v := .pointer (some ⟨b106, o107 + 0, none⟩)) (y_indexAddr rfl rfl rfl (r_indexAddr 0 Try.underlying143 inf3 rfl (by decide))) ?_
  refine vv (v := .int .i64 x.at_) (y_load rfl rfl (r_load Try.underlying3 rfl (Rd.cl (j := 0) (St.rd 3 S104 rfl) rfl))) ?_
  refine vv (yfa 3 fa39_3) ?_
  refine sr (row' := #[.int .i64 x.kd, .int .i64 0, .int .i64 0, .int .i64 x.at_, .int .i64 0, .int .i64 x.ek, .int .i64 0, .int .i64 0, .int .i64 0, .int .i64 0, .int .i64 0]) 0 S104 inf3 ?_; intro w108 S109; clear S104
  refine qk [1, 2, 4, 5] ?_
  refine x_utssr (vv (ylr 2 S109 Try.underlying39 inf39) ?_)
  refine cab en110 S109 (HW _) ?_; intro w110 S111; clear S109
  refine vv (v := .bool false) (y_binop rfl rfl rfl (r_seql (by kernel_rfl))) ?_
  refine qk [1, 2, 4, 5, 65] ?_
  refine x_tnktssr (vv (ylr 2 S111 Try.underlying39 inf39) ?_)
  refine cab en110 S111 (HW _) ?_; intro w113 S114; clear S111
  refine vv (v := .bool false) (y_binop rfl rfl rfl (r_seql (by kernel_rfl))) ?_
  refine qk [1, 4, 5, 83] ?_
  refine x_tnktssr (vv (yfa 0 fa39_0) ?_)
  refine vv (ylc 0 S114 Try.underlying3) ?_
  refine vv (dneqT (h := by omega)) ?_
  refine qk [4, 5, 95] ?_
  refine wQ_then (wC_cond_t rfl (wC_region (vv (yfa 5 fa39_5) ?_)))
  refine vv (yfa 5 fa37_0) ?_
  refine sr (row' := #[.int .i64 x.kd, .int .i64 0, .int .i64 0, .int .i64 x.at_, .int .i64 0, .int .i64 0, .int .i64 0, .int .i64 0, .int .i64 0, .int .i64 0, .int .i64 0]) 0 S114 inf3 ?_; intro w116 S117; clear S114
  refine qk [4, 5] ?_
  refine x_tsr (vv (ylr 0 S117 Try.underlying39 inf39) ?_)
  refine sa 1 S117 inf39 ?_; intro w118 S119; clear S117
  refine qk [4] ?_
  refine x_te (wQ_post (rs := [.cell 4 39]) (vs := [.agg #[.int .i64 x.kd, .int .i64 0, .int .i64 0, .int .i64 x.at_, .int .i64 0, .int .i64 0, .int .i64 0, .int .i64 0, .int .i64 0, .int .i64 0, .int .i64 0]]) rfl ⟨⟨_, rfl, res_row 1 S119 rfl Try.underlying39 rfl inf39⟩, trivial⟩ ?_)
  rw [show keep x = ⟨x.kd, 0, 0, x.at_, 0, 0, 0, 0, 0, 0, 0⟩ from by simp [keep, hk]]
  exact ⟨rfl, S119.low⟩
 ·have hl := hf
  simp [formL, hk] at hl
  subst hl
  have HW := fun w => ActWord_calls x w
  rw [show wordOf x.kd x.ek = ⟨#[108, 111, 115, 101]⟩ from by simp [wordOf, hk]] at HW
  refine wC_region (vv (ylr 2 S11 Try.underlying39 inf39) ?_)
  refine cab en110 S11 (HW _) ?_; intro w120 S121; clear S11
  refine qk [1, 2, 4, 5, 14] ?_
  refine wQ_then (wC_block (wC_seq (wC_seq (wC_region (vv (v := .bool false) (y_binop rfl rfl rfl (r_seql (by kernel_rfl))) ?_)))))
  refine va ?_
  refine qk [1, 2, 4, 5, 14, 15] ?_
  refine wQ_then (wC_cond_f rfl (wC_region (vv (v := .bool false) (y_binop rfl rfl rfl (r_seql (by kernel_rfl))) ?_)))
  refine va ?_
  refine qk [1, 2, 4, 5, 14, 15] ?_
  refine wQ_then (wC_cond_f rfl (wC_seq (wC_seq (wC_region (vv (v := .bool false) (y_binop rfl rfl rfl (r_seql (by kernel_rfl))) ?_)))))
  refine va ?_
  refine qk [1, 2, 4, 5, 14, 26] ?_
  refine wQ_then (wC_cond_f rfl (wC_region (vv (v := .bool false) (y_binop rfl rfl rfl (r_seql (by kernel_rfl))) ?_)))
  refine va ?_
  refine qk [1, 2, 4, 5, 14, 26] ?_
  refine x_tnsr (vv (v := .bool false) (y_binop rfl rfl rfl (r_seql (by kernel_rfl))) ?_)
  refine va ?_
  refine qk [1, 2, 4, 5, 14, 33] ?_
  refine wQ_then (wC_cond_f rfl (wC_seq (wC_seq (wC_region (vv (v := .bool false) (y_binop rfl rfl rfl (r_seql (by kernel_rfl))) ?_)))))
  refine va ?_
  refine qk [1, 2, 4, 5, 14, 43] ?_
  refine x_tnsr (vv (v := .bool true) (y_binop rfl rfl rfl (r_seql (by kernel_rfl))) ?_)
  refine va ?_
  refine qk [1, 2, 4, 5, 14, 43] ?_
  refine wQ_then (wC_cond_t rfl (wC_skip (wQ_then (wC_cond_t rfl (wC_region (vm ?_))))))
  obtain ⟨b123, o124, rfl⟩ := Rd.addr (St.rd 3 S121 rfl) (by decide)
  refine vv (v := .pointer (some ⟨b123, o124 + 0, none⟩)) (y_indexAddr rfl rfl rfl (r_indexAddr 0 Try.underlying143 inf3 rfl (by decide))) ?_
  refine vv (v := .int .i64 x.at_) (y_load rfl rfl (r_load Try.underlying3 rfl (Rd.cl (j := 0) (St.rd 3 S121 rfl) rfl))) ?_
  refine vv (yfa 3 fa39_3) ?_
  refine sr (row' := #[.int .i64 x.kd, .int .i64 0, .int .i64 0, .int .i64 x.at_, .int .i64 0, .int .i64 x.ek, .int .i64 0, .int .i64 0, .int .i64 0, .int .i64 0, .int .i64 0]) 0 S121 inf3 ?_; intro w125 S126; clear S121
  refine qk [1, 2, 4, 5] ?_
  refine x_utssr (vv (ylr 2 S126 Try.underlying39 inf39) ?_)
  refine cab en110 S126 (HW _) ?_; intro w127 S128; clear S126
  refine vv (v := .bool false) (y_binop rfl rfl rfl (r_seql (by kernel_rfl))) ?_
  refine qk [1, 2, 4, 5, 65] ?_
  refine x_tnktssr (vv (ylr 2 S128 Try.underlying39 inf39) ?_)
  refine cab en110 S128 (HW _) ?_; intro w130 S131; clear S128
  refine vv (v := .bool false) (y_binop rfl rfl rfl (r_seql (by kernel_rfl))) ?_
  refine qk [1, 4, 5, 83] ?_
  refine x_tnktssr (vv (yfa 0 fa39_0) ?_)
  refine vv (ylc 0 S131 Try.underlying3) ?_
  refine vv (dneqT (h := by omega)) ?_
  refine qk [4, 5, 95] ?_
  refine wQ_then (wC_cond_t rfl (wC_region (vv (yfa 5 fa39_5) ?_)))
  refine vv (yfa 5 fa37_0) ?_
  refine sr (row' := #[.int .i64 x.kd, .int .i64 0, .int .i64 0, .int .i64 x.at_, .int .i64 0, .int .i64 0, .int .i64 0, .int .i64 0, .int .i64 0, .int .i64 0, .int .i64 0]) 0 S131 inf3 ?_; intro w133 S134; clear S131
  refine qk [4, 5] ?_
  refine x_tsr (vv (ylr 0 S134 Try.underlying39 inf39) ?_)
  refine sa 1 S134 inf39 ?_; intro w135 S136; clear S134
  refine qk [4] ?_
  refine x_te (wQ_post (rs := [.cell 4 39]) (vs := [.agg #[.int .i64 x.kd, .int .i64 0, .int .i64 0, .int .i64 x.at_, .int .i64 0, .int .i64 0, .int .i64 0, .int .i64 0, .int .i64 0, .int .i64 0, .int .i64 0]]) rfl ⟨⟨_, rfl, res_row 1 S136 rfl Try.underlying39 rfl inf39⟩, trivial⟩ ?_)
  rw [show keep x = ⟨x.kd, 0, 0, x.at_, 0, 0, 0, 0, 0, 0, 0⟩ from by simp [keep, hk]]
  exact ⟨rfl, S136.low⟩
 ·have hl := hf
  simp [formL, hk] at hl
  subst hl
  have HW := fun w => ActWord_calls x w
  rw [show wordOf x.kd x.ek = ⟨#[100, 111, 117, 98, 108, 101]⟩ from by simp [wordOf, hk]] at HW
  refine wC_region (vv (ylr 2 S11 Try.underlying39 inf39) ?_)
  refine cab en110 S11 (HW _) ?_; intro w137 S138; clear S11
  refine qk [1, 2, 4, 5, 14] ?_
  refine wQ_then (wC_block (wC_seq (wC_seq (wC_region (vv (v := .bool false) (y_binop rfl rfl rfl (r_seql (by kernel_rfl))) ?_)))))
  refine va ?_
  refine qk [1, 2, 4, 5, 14, 15] ?_
  refine wQ_then (wC_cond_f rfl (wC_region (vv (v := .bool false) (y_binop rfl rfl rfl (r_seql (by kernel_rfl))) ?_)))
  refine va ?_
  refine qk [1, 2, 4, 5, 14, 15] ?_
  refine wQ_then (wC_cond_f rfl (wC_seq (wC_seq (wC_region (vv (v := .bool false) (y_binop rfl rfl rfl (r_seql (by kernel_rfl))) ?_)))))
  refine va ?_
  refine qk [1, 2, 4, 5, 14, 26] ?_
  refine wQ_then (wC_cond_f rfl (wC_region (vv (v := .bool false) (y_binop rfl rfl rfl (r_seql (by kernel_rfl))) ?_)))
  refine va ?_
  refine qk [1, 2, 4, 5, 14, 26] ?_
  refine x_tnsr (vv (v := .bool false) (y_binop rfl rfl rfl (r_seql (by kernel_rfl))) ?_)
  refine va ?_
  refine qk [1, 2, 4, 5, 14, 33] ?_
  refine wQ_then (wC_cond_f rfl (wC_seq (wC_seq (wC_region (vv (v := .bool false) (y_binop rfl rfl rfl (r_seql (by kernel_rfl))) ?_)))))
  refine va ?_
  refine qk [1, 2, 4, 5, 14, 43] ?_
  refine x_tnsr (vv (v := .bool false) (y_binop rfl rfl rfl (r_seql (by kernel_rfl))) ?_)
  refine va ?_
  refine qk [1, 2, 4, 5, 14, 43] ?_
  refine wQ_then (wC_cond_f rfl (wC_region (vv (v := .bool true) (y_binop rfl rfl rfl (r_seql (by kernel_rfl))) ?_)))
  refine va ?_
  refine qk [1, 2, 4, 5, 14, 43] ?_
  refine wQ_then (wC_cond_t rfl (wC_region (vm ?_)))
  obtain ⟨b140, o141, rfl⟩ := Rd.addr (St.rd 3 S138 rfl) (by decide)
  refine vv (v := .pointer (some ⟨b140, o141 + 0, none⟩)) (y_indexAddr rfl rfl rfl (r_indexAddr 0 Try.underlying143 inf3 rfl (by decide))) ?_
  refine vv (v := .int .i64 x.at_) (y_load rfl rfl (r_load Try.underlying3 rfl (Rd.cl (j := 0) (St.rd 3 S138 rfl) rfl))) ?_
  refine vv (yfa 3 fa39_3) ?_
  refine sr (row' := #[.int .i64 x.kd, .int .i64 0, .int .i64 0, .int .i64 x.at_, .int .i64 0, .int .i64 x.ek, .int .i64 0, .int .i64 0, .int .i64 0, .int .i64 0, .int .i64 0]) 0 S138 inf3 ?_; intro w142 S143; clear S138
  refine qk [1, 2, 4, 5] ?_
  refine x_utssr (vv (ylr 2 S143 Try.underlying39 inf39) ?_)
  refine cab en110 S143 (HW _) ?_; intro w144 S145; clear S143
  refine vv (v := .bool false) (y_binop rfl rfl rfl (r_seql (by kernel_rfl))) ?_
  refine qk [1, 2, 4, 5, 65] ?_
  refine x_tnktssr (vv (ylr 2 S145 Try.underlying39 inf39) ?_)
  refine cab en110 S145 (HW _) ?_; intro w147 S148; clear S145
  refine vv (v := .bool false) (y_binop rfl rfl rfl (r_seql (by kernel_rfl))) ?_
  refine qk [1, 4, 5, 83] ?_
  refine x_tnktssr (vv (yfa 0 fa39_0) ?_)
  refine vv (ylc 0 S148 Try.underlying3) ?_
  refine vv (dneqT (h := by omega)) ?_
  refine qk [4, 5, 95] ?_
  refine wQ_then (wC_cond_t rfl (wC_region (vv (yfa 5 fa39_5) ?_)))
  refine vv (yfa 5 fa37_0) ?_
  refine sr (row' := #[.int .i64 x.kd, .int .i64 0, .int .i64 0, .int .i64 x.at_, .int .i64 0, .int .i64 0, .int .i64 0, .int .i64 0, .int .i64 0, .int .i64 0, .int .i64 0]) 0 S148 inf3 ?_; intro w150 S151; clear S148
  refine qk [4, 5] ?_
  refine x_tsr (vv (ylr 0 S151 Try.underlying39 inf39) ?_)
  refine sa 1 S151 inf39 ?_; intro w152 S153; clear S151
  refine qk [4] ?_
  refine x_te (wQ_post (rs := [.cell 4 39]) (vs := [.agg #[.int .i64 x.kd, .int .i64 0, .int .i64 0, .int .i64 x.at_, .int .i64 0, .int .i64 0, .int .i64 0, .int .i64 0, .int .i64 0, .int .i64 0, .int .i64 0]]) rfl ⟨⟨_, rfl, res_row 1 S153 rfl Try.underlying39 rfl inf39⟩, trivial⟩ ?_)
  rw [show keep x = ⟨x.kd, 0, 0, x.at_, 0, 0, 0, 0, 0, 0, 0⟩ from by simp [keep, hk]]
  exact ⟨rfl, S153.low⟩
 ·have hl := hf
  simp [formL, hk] at hl
  subst hl
  have HW := fun w => ActWord_calls x w
  rw [show wordOf x.kd x.ek = ⟨#[97, 108, 108]⟩ from by simp [wordOf, hk]] at HW
  refine wC_region (vv (ylr 2 S11 Try.underlying39 inf39) ?_)
  refine cab en110 S11 (HW _) ?_; intro w154 S155; clear S11
  refine qk [1, 2, 4, 5, 14] ?_
  refine wQ_then (wC_block (wC_seq (wC_seq (wC_region (vv (v := .bool false) (y_binop rfl rfl rfl (r_seql (by kernel_rfl))) ?_)))))
  refine va ?_
  refine qk [1, 2, 4, 5, 14, 15] ?_
  refine wQ_then (wC_cond_f rfl (wC_region (vv (v := .bool false) (y_binop rfl rfl rfl (r_seql (by kernel_rfl))) ?_)))
  refine va ?_
  refine qk [1, 2, 4, 5, 14, 15] ?_
  refine wQ_then (wC_cond_f rfl (wC_seq (wC_seq (wC_region (vv (v := .bool false) (y_binop rfl rfl rfl (r_seql (by kernel_rfl))) ?_)))))
  refine va ?_
  refine qk [1, 2, 4, 5, 14, 26] ?_
  refine wQ_then (wC_cond_f rfl (wC_region (vv (v := .bool false) (y_binop rfl rfl rfl (r_seql (by kernel_rfl))) ?_)))
  refine va ?_
  refine qk [1, 2, 4, 5, 14, 26] ?_
  refine x_tnsr (vv (v := .bool false) (y_binop rfl rfl rfl (r_seql (by kernel_rfl))) ?_)
  refine va ?_
  refine qk [1, 2, 4, 5, 14, 33] ?_
  refine wQ_then (wC_cond_f rfl (wC_seq (wC_seq (wC_region (vv (v := .bool false) (y_binop rfl rfl rfl (r_seql (by kernel_rfl))) ?_)))))
  refine va ?_
  refine qk [1, 2, 4, 5, 14, 43] ?_
  refine x_tnsr (vv (v := .bool false) (y_binop rfl rfl rfl (r_seql (by kernel_rfl))) ?_)
  refine va ?_
  refine qk [1, 2, 4, 5, 14, 43] ?_
  refine wQ_then (wC_cond_f rfl (wC_region (vv (v := .bool false) (y_binop rfl rfl rfl (r_seql (by kernel_rfl))) ?_)))
  refine va ?_
  refine qk [1, 2, 4, 5, 14, 43] ?_
  refine wQ_then (wC_cond_f rfl (wC_seq (wC_seq (wC_region (vv (v := .bool false) (y_binop rfl rfl rfl (r_seql (by kernel_rfl))) ?_)))))
  refine va ?_
  refine qk [1, 2, 4, 5, 14, 51] ?_
  refine x_tnsr (vv (v := .bool false) (y_binop rfl rfl rfl (r_seql (by kernel_rfl))) ?_)
  refine va ?_
  refine qk [1, 2, 4, 5, 14, 51] ?_
  refine wQ_then (wC_cond_f rfl (wC_region (vv (v := .bool false) (y_binop rfl rfl rfl (r_seql (by kernel_rfl))) ?_)))
  refine va ?_
  refine qk [1, 2, 4, 5, 51] ?_
  refine wQ_then (wC_cond_f rfl (wC_skip (wQ_blk_n (wQ_then (wC_seq (wC_seq (wC_region (vv (ylr 2 S155 Try.underlying39 inf39) ?_))))))))
  refine cab en110 S155 (HW _) ?_; intro w157 S158; clear S155
  refine vv (v := .bool false) (y_binop rfl rfl rfl (r_seql (by kernel_rfl))) ?_
  refine qk [1, 2, 4, 5, 65] ?_
  refine x_tnktssr (vv (ylr 2 S158 Try.underlying39 inf39) ?_)
  refine cab en110 S158 (HW _) ?_; intro w160 S161; clear S158
  refine vv (v := .bool false) (y_binop rfl rfl rfl (r_seql (by kernel_rfl))) ?_
  refine qk [1, 4, 5, 83] ?_
  refine x_tnktssr (vv (yfa 0 fa39_0) ?_)
  refine vv (ylc 0 S161 Try.underlying3) ?_
  refine vv (dneqT (h := by omega)) ?_
  refine qk [4, 5, 95] ?_
  refine wQ_then (wC_cond_t rfl (wC_region (vv (yfa 5 fa39_5) ?_)))
  refine vv (yfa 5 fa37_0) ?_
  refine sr (row' := #[.int .i64 x.kd, .int .i64 0, .int .i64 0, .int .i64 0, .int .i64 0, .int .i64 0, .int .i64 0, .int .i64 0, .int .i64 0, .int .i64 0, .int .i64 0]) 0 S161 inf3 ?_; intro w163 S164; clear S161
  refine qk [4, 5] ?_
  refine x_tsr (vv (ylr 0 S164 Try.underlying39 inf39) ?_)
  refine sa 1 S164 inf39 ?_; intro w165 S166; clear S164
  refine qk [4] ?_
  refine x_te (wQ_post (rs := [.cell 4 39]) (vs := [.agg #[.int .i64 x.kd, .int .i64 0, .int .i64 0, .int .i64 0, .int .i64 0, .int .i64 0, .int .i64 0, .int .i64 0, .int .i64 0, .int .i64 0, .int .i64 0]]) rfl ⟨⟨_, rfl, res_row 1 S166 rfl Try.underlying39 rfl inf39⟩, trivial⟩ ?_)
  rw [show keep x = ⟨x.kd, 0, 0, 0, 0, 0, 0, 0, 0, 0, 0⟩ from by simp [keep, hk]]
  exact ⟨rfl, S166.low⟩
 ·have hl := hf
  simp [formL, hk, hek] at hl
  subst hl
  have HW := fun w => ActWord_calls x w
  rw [show wordOf x.kd x.ek = ⟨#[112, 117, 98, 108, 105, 115, 104]⟩ from by simp [wordOf, hk, hek]] at HW
  refine wC_region (vv (ylr 2 S11 Try.underlying39 inf39) ?_)
  refine cab en110 S11 (HW _) ?_; intro w167 S168; clear S11
  refine qk [1, 2, 4, 5, 14] ?_
  refine wQ_then (wC_block (wC_seq (wC_seq (wC_region (vv (v := .bool false) (y_binop rfl rfl rfl (r_seql (by kernel_rfl))) ?_)))))
  refine va ?_
  refine qk [1, 2, 4, 5, 14, 15] ?_
  refine wQ_then (wC_cond_f rfl (wC_region (vv (v := .bool false) (y_binop rfl rfl rfl (r_seql (by kernel_rfl))) ?_)))
  refine va ?_
  refine qk [1, 2, 4, 5, 14, 15] ?_
  refine wQ_then (wC_cond_f rfl (wC_seq (wC_seq (wC_region (vv (v := .bool false) (y_binop rfl rfl rfl (r_seql (by kernel_rfl))) ?_)))))
  refine va ?_
  refine qk [1, 2, 4, 5, 14, 26] ?_
  refine wQ_then (wC_cond_f rfl (wC_region (vv (v := .bool false) (y_binop rfl rfl rfl (r_seql (by kernel_rfl))) ?_)))
  refine va ?_
  refine qk [1, 2, 4, 5, 14, 26] ?_
  refine x_tnsr (vv (v := .bool false) (y_binop rfl rfl rfl (r_seql (by kernel_rfl))) ?_)
  refine va ?_
  refine qk [1, 2, 4, 5, 14, 33] ?_
  refine wQ_then (wC_cond_f rfl (wC_seq (wC_seq (wC_region (vv (v := .bool false) (y_binop rfl rfl rfl (r_seql (by kernel_rfl))) ?_)))))
  refine va ?_
  refine qk [1, 2, 4, 5, 14, 43] ?_
  refine x_tnsr (vv (v := .bool false) (y_binop rfl rfl rfl (r_seql (by kernel_rfl))) ?_)
  refine va ?_
  refine qk [1, 2, 4, 5, 14, 43] ?_
  refine wQ_then (wC_cond_f rfl (wC_region (vv (v := .bool false) (y_binop rfl rfl rfl (r_seql (by kernel_rfl))) ?_)))
  refine va ?_
  refine qk [1, 2, 4, 5, 14, 43] ?_
  refine wQ_then (wC_cond_f rfl (wC_seq (wC_seq (wC_region (vv (v := .bool true) (y_binop rfl rfl rfl (r_seql (by kernel_rfl))) ?_)))))
  refine va ?_
  refine qk [1, 2, 4, 5, 14, 51] ?_
  refine wQ_then (wC_cond_t rfl (wC_skip (wQ_then (wC_cond_t rfl (wC_seq (wC_region (vm ?_)))))))
  obtain ⟨b170, o171, rfl⟩ := Rd.addr (St.rd 3 S168 rfl) (by decide)
  refine vv (v := .pointer (some ⟨b170, o171 + 0, none⟩)) (y_indexAddr rfl rfl rfl (r_indexAddr 0 Try.underlying143 inf3 rfl (by decide))) ?_
  refine vv (v := .int .i64 x.nd) (y_load rfl rfl (r_load Try.underlying3 rfl (Rd.cl (j := 0) (St.rd 3 S168 rfl) rfl))) ?_
  refine vv (yfa 1 fa39_1) ?_
  refine sr (row' := #[.int .i64 x.kd, .int .i64 x.nd, .int .i64 0, .int .i64 0, .int .i64 0, .int .i64 x.ek, .int .i64 0, .int .i64 0, .int .i64 0, .int .i64 0, .int .i64 0]) 0 S168 inf3 ?_; intro w172 S173; clear S168
  refine qk [1, 2, 4, 5] ?_
  refine x_tr (vm ?_)
  refine vv (v := .pointer (some ⟨b170, o171 + 1, none⟩)) (y_indexAddr rfl rfl rfl (r_indexAddr 1 Try.underlying143 inf3 rfl (by decide))) ?_
  refine vv (v := .int .i64 x.qu) (y_load rfl rfl (r_load Try.underlying3 rfl (Rd.cl (j := 1) (St.rd 3 S173 rfl) rfl))) ?_
  refine vv (yfa 2 fa39_2) ?_
  refine sr (row' := #[.int .i64 x.kd, .int .i64 x.nd, .int .i64 x.qu, .int .i64 0, .int .i64 0, .int .i64 x.ek, .int .i64 0, .int .i64 0, .int .i64 0, .int .i64 0, .int .i64 0]) 0 S173 inf3 ?_; intro w174 S175; clear S173
  refine qk [1, 2, 4, 5] ?_
  refine x_utssr (vv (ylr 2 S175 Try.underlying39 inf39) ?_)
  refine cab en110 S175 (HW _) ?_; intro w176 S177; clear S175
  refine vv (v := .bool true) (y_binop rfl rfl rfl (r_seql (by kernel_rfl))) ?_
  refine qk [1, 2, 4, 5, 65] ?_
  refine x_tysr (vm ?_)
  refine vv (v := .pointer (some ⟨b170, o171 + 2, none⟩)) (y_indexAddr rfl rfl rfl (r_indexAddr 2 Try.underlying143 inf3 rfl (by decide))) ?_
  refine vv (v := .int .i64 x.ep) (y_load rfl rfl (r_load Try.underlying3 rfl (Rd.cl (j := 2) (St.rd 3 S177 rfl) rfl))) ?_
  refine vv (yfa 5 fa39_5) ?_
  refine vv (yfa 6 fa37_1) ?_
  refine sr (row' := #[.int .i64 x.kd, .int .i64 x.nd, .int .i64 x.qu, .int .i64 0, .int .i64 0, .int .i64 x.ek, .int .i64 x.ep, .int .i64 0, .int .i64 0, .int .i64 0, .int .i64 0]) 0 S177 inf3 ?_; intro w179 S180; clear S177
  refine qk [1, 2, 4, 5] ?_
  refine x_tsr (vm ?_)
  refine vv (v := .pointer (some ⟨b170, o171 + 3, none⟩)) (y_indexAddr rfl rfl rfl (r_indexAddr 3 Try.underlying143 inf3 rfl (by decide))) ?_
  refine vv (v := .int .i64 x.ei) (y_load rfl rfl (r_load Try.underlying3 rfl (Rd.cl (j := 3) (St.rd 3 S180 rfl) rfl))) ?_
  refine vv (yfa 5 fa39_5) ?_
  refine vv (yfa 7 fa37_2) ?_
  refine sr (row' := #[.int .i64 x.kd, .int .i64 x.nd, .int .i64 x.qu, .int .i64 0, .int .i64 0, .int .i64 x.ek, .int .i64 x.ep, .int .i64 x.ei, .int .i64 0, .int .i64 0, .int .i64 0]) 0 S180 inf3 ?_; intro w181 S182; clear S180
  refine qk [1, 2, 4, 5] ?_
  refine x_tr (vm ?_)
  refine vv (v := .pointer (some ⟨b170, o171 + 4, none⟩)) (y_indexAddr rfl rfl rfl (r_indexAddr 4 Try.underlying143 inf3 rfl (by decide))) ?_
  refine vv (v := .int .i64 x.eb) (y_load rfl rfl (r_load Try.underlying3 rfl (Rd.cl (j := 4) (St.rd 3 S182 rfl) rfl))) ?_
  refine vv (yfa 5 fa39_5) ?_
  refine vv (yfa 8 fa37_3) ?_
  refine sr (row' := #[.int .i64 x.kd, .int .i64 x.nd, .int .i64 x.qu, .int .i64 0, .int .i64 0, .int .i64 x.ek, .int .i64 x.ep, .int .i64 x.ei, .int .i64 x.eb, .int .i64 0, .int .i64 0]) 0 S182 inf3 ?_; intro w183 S184; clear S182
  refine qk [1, 2, 4, 5] ?_
  refine x_tssr (vv (ylr 2 S184 Try.underlying39 inf39) ?_)
  refine cab en110 S184 (HW _) ?_; intro w185 S186; clear S184
  refine vv (v := .bool false) (y_binop rfl rfl rfl (r_seql (by kernel_rfl))) ?_
  refine qk [1, 4, 5, 83] ?_
  refine x_tnktssr (vv (yfa 0 fa39_0) ?_)
  refine vv (ylc 0 S186 Try.underlying3) ?_
  refine vv (dneqF (h := by omega)) ?_
  refine qk [4, 5, 95] ?_
  refine x_tnktsr (vv (ylr 0 S186 Try.underlying39 inf39) ?_)
  refine sa 1 S186 inf39 ?_; intro w188 S189; clear S186
  refine qk [4] ?_
  refine x_te (wQ_post (rs := [.cell 4 39]) (vs := [.agg #[.int .i64 x.kd, .int .i64 x.nd, .int .i64 x.qu, .int .i64 0, .int .i64 0, .int .i64 x.ek, .int .i64 x.ep, .int .i64 x.ei, .int .i64 x.eb, .int .i64 0, .int .i64 0]]) rfl ⟨⟨_, rfl, res_row 1 S189 rfl Try.underlying39 rfl inf39⟩, trivial⟩ ?_)
  rw [show keep x = ⟨x.kd, x.nd, x.qu, 0, 0, x.ek, x.ep, x.ei, x.eb, 0, 0⟩ from by simp [keep, hk, hek]]
  exact ⟨rfl, S189.low⟩
 ·have hl := hf
  simp [formL, hk, hek] at hl
  subst hl
  have HW := fun w => ActWord_calls x w
  rw [show wordOf x.kd x.ek = ⟨#[114, 101, 99, 101, 105, 118, 101]⟩ from by simp [wordOf, hk, hek]] at HW
  refine wC_region (vv (ylr 2 S11 Try.underlying39 inf39) ?_)
  refine cab en110 S11 (HW _) ?_; intro w190 S191; clear S11
  refine qk [1, 2, 4, 5, 14] ?_
  refine wQ_then (wC_block (wC_seq (wC_seq (wC_region (vv (v := .bool false) (y_binop rfl rfl rfl (r_seql (by kernel_rfl))) ?_)))))
  refine va ?_
  refine qk [1, 2, 4, 5, 14, 15] ?_
  refine wQ_then (wC_cond_f rfl (wC_region (vv (v := .bool false) (y_binop rfl rfl rfl (r_seql (by kernel_rfl))) ?_)))
  refine va ?_
  refine qk [1, 2, 4, 5, 14, 15] ?_
  refine wQ_then (wC_cond_f rfl (wC_seq (wC_seq (wC_region (vv (v := .bool false) (y_binop rfl rfl rfl (r_seql (by kernel_rfl))) ?_)))))
  refine va ?_
  refine qk [1, 2, 4, 5, 14, 26] ?_
  refine wQ_then (wC_cond_f rfl (wC_region (vv (v := .bool false) (y_binop rfl rfl rfl (r_seql (by kernel_rfl))) ?_)))
  refine va ?_
  refine qk [1, 2, 4, 5, 14, 26] ?_
  refine x_tnsr (vv (v := .bool false) (y_binop rfl rfl rfl (r_seql (by kernel_rfl))) ?_)
  refine va ?_
  refine qk [1, 2, 4, 5, 14, 33] ?_
  refine wQ_then (wC_cond_f rfl (wC_seq (wC_seq (wC_region (vv (v := .bool false) (y_binop rfl rfl rfl (r_seql (by kernel_rfl))) ?_)))))
  refine va ?_
  refine qk [1, 2, 4, 5, 14, 43] ?_
  refine x_tnsr (vv (v := .bool false) (y_binop rfl rfl rfl (r_seql (by kernel_rfl))) ?_)
  refine va ?_
  refine qk [1, 2, 4, 5, 14, 43] ?_
  refine wQ_then (wC_cond_f rfl (wC_region (vv (v := .bool false) (y_binop rfl rfl rfl (r_seql (by kernel_rfl))) ?_)))
  refine va ?_
  refine qk [1, 2, 4, 5, 14, 43] ?_
  refine wQ_then (wC_cond_f rfl (wC_seq (wC_seq (wC_region (vv (v := .bool false) (y_binop rfl rfl rfl (r_seql (by kernel_rfl))) ?_)))))
  refine va ?_
  refine qk [1, 2, 4, 5, 14, 51] ?_
  refine x_tnsr (vv (v := .bool true) (y_binop rfl rfl rfl (r_seql (by kernel_rfl))) ?_)
  refine va ?_
  refine qk [1, 2, 4, 5, 14, 51] ?_
  refine wQ_then (wC_cond_t rfl (wC_skip (wQ_then (wC_cond_t rfl (wC_seq (wC_region (vm ?_)))))))
  obtain ⟨b193, o194, rfl⟩ := Rd.addr (St.rd 3 S191 rfl) (by decide)
  refine vv (v := .pointer (some ⟨b193, o194 + 0, none⟩)) (y_indexAddr rfl rfl rfl (r_indexAddr 0 Try.underlying143 inf3 rfl (by decide))) ?_
  refine vv (v := .int .i64 x.nd) (y_load rfl rfl (r_load Try.underlying3 rfl (Rd.cl (j := 0) (St.rd 3 S191 rfl) rfl))) ?_
  refine vv (yfa 1 fa39_1) ?_
  refine sr (row' := #[.int .i64 x.kd, .int .i64 x.nd, .int .i64 0, .int .i64 0, .int .i64 0, .int .i64 x.ek, .int .i64 0, .int .i64 0, .int .i64 0, .int .i64 0, .int .i64 0]) 0 S191 inf3 ?_; intro w195 S196; clear S191
  refine qk [1, 2, 4, 5] ?_
  refine x_tr (vm ?_)
  refine vv (v := .pointer (some ⟨b193, o194 + 1, none⟩)) (y_indexAddr rfl rfl rfl (r_indexAddr 1 Try.underlying143 inf3 rfl (by decide))) ?_
  refine vv (v := .int .i64 x.qu) (y_load rfl rfl (r_load Try.underlying3 rfl (Rd.cl (j := 1) (St.rd 3 S196 rfl) rfl))) ?_
  refine vv (yfa 2 fa39_2) ?_
  refine sr (row' := #[.int .i64 x.kd, .int .i64 x.nd, .int .i64 x.qu, .int .i64 0, .int .i64 0, .int .i64 x.ek, .int .i64 0, .int .i64 0, .int .i64 0, .int .i64 0, .int .i64 0]) 0 S196 inf3 ?_; intro w197 S198; clear S196
  refine qk [1, 2, 4, 5] ?_
  refine x_utssr (vv (ylr 2 S198 Try.underlying39 inf39) ?_)
  refine cab en110 S198 (HW _) ?_; intro w199 S200; clear S198
  refine vv (v := .bool false) (y_binop rfl rfl rfl (r_seql (by kernel_rfl))) ?_
  refine qk [1, 2, 4, 5, 65] ?_
  refine x_tnktssr (vv (ylr 2 S200 Try.underlying39 inf39) ?_)
  refine cab en110 S200 (HW _) ?_; intro w202 S203; clear S200
  refine vv (v := .bool false) (y_binop rfl rfl rfl (r_seql (by kernel_rfl))) ?_
  refine qk [1, 4, 5, 83] ?_
  refine x_tnktssr (vv (yfa 0 fa39_0) ?_)
  refine vv (ylc 0 S203 Try.underlying3) ?_
  refine vv (dneqF (h := by omega)) ?_
  refine qk [4, 5, 95] ?_
  refine x_tnktsr (vv (ylr 0 S203 Try.underlying39 inf39) ?_)
  refine sa 1 S203 inf39 ?_; intro w205 S206; clear S203
  refine qk [4] ?_
  refine x_te (wQ_post (rs := [.cell 4 39]) (vs := [.agg #[.int .i64 x.kd, .int .i64 x.nd, .int .i64 x.qu, .int .i64 0, .int .i64 0, .int .i64 x.ek, .int .i64 0, .int .i64 0, .int .i64 0, .int .i64 0, .int .i64 0]]) rfl ⟨⟨_, rfl, res_row 1 S206 rfl Try.underlying39 rfl inf39⟩, trivial⟩ ?_)
  rw [show keep x = ⟨x.kd, x.nd, x.qu, 0, 0, x.ek, 0, 0, 0, 0, 0⟩ from by simp [keep, hk, hek]]
  exact ⟨rfl, S206.low⟩
 ·have hl := hf
  simp [formL, hk, hek] at hl
  subst hl
  have HW := fun w => ActWord_calls x w
  rw [show wordOf x.kd x.ek = ⟨#[97, 99, 107]⟩ from by simp [wordOf, hk, hek]] at HW
  refine wC_region (vv (ylr 2 S11 Try.underlying39 inf39) ?_)
  refine cab en110 S11 (HW _) ?_; intro w207 S208; clear S11
  refine qk [1, 2, 4, 5, 14] ?_
  refine wQ_then (wC_block (wC_seq (wC_seq (wC_region (vv (v := .bool false) (y_binop rfl rfl rfl (r_seql (by kernel_rfl))) ?_)))))
  refine va ?_
  refine qk [1, 2, 4, 5, 14, 15] ?_
  refine wQ_then (wC_cond_f rfl (wC_region (vv (v := .bool false) (y_binop rfl rfl rfl (r_seql (by kernel_rfl))) ?_)))
  refine va ?_
  refine qk [1, 2, 4, 5, 14, 15] ?_
  refine wQ_then (wC_cond_f rfl (wC_seq (wC_seq (wC_region (vv (v := .bool false) (y_binop rfl rfl rfl (r_seql (by kernel_rfl))) ?_)))))
  refine va ?_
  refine qk [1, 2, 4, 5, 14, 26] ?_
  refine wQ_then (wC_cond_f rfl (wC_region (vv (v := .bool false) (y_binop rfl rfl rfl (r_seql (by kernel_rfl))) ?_)))
  refine va ?_
  refine qk [1, 2, 4, 5, 14, 26] ?_
  refine x_tnsr (vv (v := .bool false) (y_binop rfl rfl rfl (r_seql (by kernel_rfl))) ?_)
  refine va ?_
  refine qk [1, 2, 4, 5, 14, 33] ?_
  refine wQ_then (wC_cond_f rfl (wC_seq (wC_seq (wC_region (vv (v := .bool false) (y_binop rfl rfl rfl (r_seql (by kernel_rfl))) ?_)))))
  refine va ?_
  refine qk [1, 2, 4, 5, 14, 43] ?_
  refine x_tnsr (vv (v := .bool false) (y_binop rfl rfl rfl (r_seql (by kernel_rfl))) ?_)
  refine va ?_
  refine qk [1, 2, 4, 5, 14, 43] ?_
  refine wQ_then (wC_cond_f rfl (wC_region (vv (v := .bool false) (y_binop rfl rfl rfl (r_seql (by kernel_rfl))) ?_)))
  refine va ?_
  refine qk [1, 2, 4, 5, 14, 43] ?_
  refine wQ_then (wC_cond_f rfl (wC_seq (wC_seq (wC_region (vv (v := .bool false) (y_binop rfl rfl rfl (r_seql (by kernel_rfl))) ?_)))))
  refine va ?_
  refine qk [1, 2, 4, 5, 14, 51] ?_
  refine x_tnsr (vv (v := .bool false) (y_binop rfl rfl rfl (r_seql (by kernel_rfl))) ?_)
  refine va ?_
  refine qk [1, 2, 4, 5, 14, 51] ?_
  refine wQ_then (wC_cond_f rfl (wC_region (vv (v := .bool true) (y_binop rfl rfl rfl (r_seql (by kernel_rfl))) ?_)))
  refine va ?_
  refine qk [1, 2, 4, 5, 51] ?_
  refine x_tysr (vm ?_)
  obtain ⟨b210, o211, rfl⟩ := Rd.addr (St.rd 3 S208 rfl) (by decide)
  refine vv (v := .pointer (some ⟨b210, o211 + 0, none⟩)) (y_indexAddr rfl rfl rfl (r_indexAddr 0 Try.underlying143 inf3 rfl (by decide))) ?_
  refine vv (v := .int .i64 x.nd) (y_load rfl rfl (r_load Try.underlying3 rfl (Rd.cl (j := 0) (St.rd 3 S208 rfl) rfl))) ?_
  refine vv (yfa 1 fa39_1) ?_
  refine sr (row' := #[.int .i64 x.kd, .int .i64 x.nd, .int .i64 0, .int .i64 0, .int .i64 0, .int .i64 x.ek, .int .i64 0, .int .i64 0, .int .i64 0, .int .i64 0, .int .i64 0]) 0 S208 inf3 ?_; intro w212 S213; clear S208
  refine qk [1, 2, 4, 5] ?_
  refine x_tr (vm ?_)
  refine vv (v := .pointer (some ⟨b210, o211 + 1, none⟩)) (y_indexAddr rfl rfl rfl (r_indexAddr 1 Try.underlying143 inf3 rfl (by decide))) ?_
  refine vv (v := .int .i64 x.qu) (y_load rfl rfl (r_load Try.underlying3 rfl (Rd.cl (j := 1) (St.rd 3 S213 rfl) rfl))) ?_
  refine vv (yfa 2 fa39_2) ?_
  refine sr (row' := #[.int .i64 x.kd, .int .i64 x.nd, .int .i64 x.qu, .int .i64 0, .int .i64 0, .int .i64 x.ek, .int .i64 0, .int .i64 0, .int .i64 0, .int .i64 0, .int .i64 0]) 0 S213 inf3 ?_; intro w214 S215; clear S213
  refine qk [1, 2, 4, 5] ?_
  refine x_utssr (vv (ylr 2 S215 Try.underlying39 inf39) ?_)
  refine cab en110 S215 (HW _) ?_; intro w216 S217; clear S215
  refine vv (v := .bool false) (y_binop rfl rfl rfl (r_seql (by kernel_rfl))) ?_
  refine qk [1, 2, 4, 5, 65] ?_
  refine x_tnktssr (vv (ylr 2 S217 Try.underlying39 inf39) ?_)
  refine cab en110 S217 (HW _) ?_; intro w219 S220; clear S217
  refine vv (v := .bool true) (y_binop rfl rfl rfl (r_seql (by kernel_rfl))) ?_
  refine qk [1, 4, 5, 83] ?_
  refine wQ_then (wC_cond_t rfl ?_)
  have S222 := S220.drew; clear S220
  refine wC_head (C := fun w' => St w.heap.size w w' [.blk b7 #[.int .i64 x.kd, .int .i64 x.nd, .int .i64 x.qu, .int .i64 0, .int .i64 0, .int .i64 x.ek, .int .i64 0, .int .i64 0, .int .i64 0, .int .i64 0, .int .i64 0] 39, .blk b4 #[.int .i64 0, .int .i64 0, .int .i64 0, .int .i64 0, .int .i64 0, .int .i64 0, .int .i64 0, .int .i64 0, .int .i64 0, .int .i64 0, .int .i64 0] 39, .blk b1 #[.int .i64 x.kd, .int .i64 x.nd, .int .i64 x.qu, .int .i64 x.at_, .int .i64 x.kp, .int .i64 x.ek, .int .i64 x.ep, .int .i64 x.ei, .int .i64 x.eb, .int .i64 x.eh, .int .i64 x.en] 39, .rd 1 (some ⟨b210, o211, none⟩) 4 [.int .i64 x.nd, .int .i64 x.qu, .int .i64 x.eh, .int .i64 x.en]]) (m := 10) (listed := #[false, false, false, false, false, false, false, false, false, false]) 7 mixed rfl rfl ?_
  refine gk (v := .slice (some ⟨b210, o211, none⟩) 4 c) 0 rfl S222 (fun _ _ => ym) ?_
  refine gk (v := .pointer (some ⟨b210, o211 + 2, none⟩)) 1 rfl S222 (fun _ _ => (y_indexAddr rfl rfl rfl (r_indexAddr 2 Try.underlying143 inf3 rfl (by decide)))) ?_
  refine gk (v := .int .i64 x.eh) 2 rfl S222 (fun _ Sx225 => (y_load rfl rfl (r_load Try.underlying3 rfl (Rd.cl (j := 2) (St.rd 3 Sx225 rfl) rfl)))) ?_
  refine gk (v := .slice (some ⟨b210, o211, none⟩) 4 c) 3 rfl S222 (fun _ _ => ym) ?_
  refine gk (v := .pointer (some ⟨b210, o211 + 3, none⟩)) 4 rfl S222 (fun _ _ => (y_indexAddr rfl rfl rfl (r_indexAddr 3 Try.underlying143 inf3 rfl (by decide)))) ?_
  refine gk (v := .int .i64 x.en) 5 rfl S222 (fun _ Sx228 => (y_load rfl rfl (r_load Try.underlying3 rfl (Rd.cl (j := 3) (St.rd 3 Sx228 rfl) rfl)))) ?_
  refine gk (v := .agg #[.int .i64 x.eh, .int .i64 x.en]) 6 rfl S222 (fun _ _ => (y_build (vs := [(0, .int .i64 x.eh), (1, .int .i64 x.en)]) rfl ⟨rfl, rfl, rfl, rfl, trivial⟩ (by kernel_rfl))) ?_
  refine wG_tail (by kernel_rfl) rfl rfl rfl ?_
  refine vv (yfa 5 fa39_5) ?_
  refine vv (yfa 9 fa37_4) ?_
  refine sr (row' := #[.int .i64 x.kd, .int .i64 x.nd, .int .i64 x.qu, .int .i64 0, .int .i64 0, .int .i64 x.ek, .int .i64 0, .int .i64 0, .int .i64 0, .int .i64 x.eh, .int .i64 x.en]) 0 S222 inf35 ?_; intro w230 S231; clear S222
  refine wL_nil (wQ_np ?_)
  refine pk [4, 5] ?_
  refine x_tssr (vv (yfa 0 fa39_0) ?_)
  refine vv (ylc 0 S231 Try.underlying3) ?_
  refine vv (dneqF (h := by omega)) ?_
  refine qk [4, 5, 95] ?_
  refine x_tnktsr (vv (ylr 0 S231 Try.underlying39 inf39) ?_)
  refine sa 1 S231 inf39 ?_; intro w232 S233; clear S231
  refine qk [4] ?_
  refine x_te (wQ_post (rs := [.cell 4 39]) (vs := [.agg #[.int .i64 x.kd, .int .i64 x.nd, .int .i64 x.qu, .int .i64 0, .int .i64 0, .int .i64 x.ek, .int .i64 0, .int .i64 0, .int .i64 0, .int .i64 x.eh, .int .i64 x.en]]) rfl ⟨⟨_, rfl, res_row 1 S233 rfl Try.underlying39 rfl inf39⟩, trivial⟩ ?_)
  rw [show keep x = ⟨x.kd, x.nd, x.qu, 0, 0, x.ek, 0, 0, 0, x.eh, x.en⟩ from by simp [keep, hk, hek]]
  exact ⟨rfl, S233.low⟩
 ·rw [hn] at hf; cases hf
end Go.Proofs.Ytkjlafpafmihaaa

namespace Go.Proofs.Ytkjlafpafmihaaa
open Go.ChangeShapes Go.WideShapes Go.RowKit

set_option maxRecDepth 100000 in
set_option maxHeartbeats 8000000 in
theorem form_calls (g : Nat) (x : Ac) (w : World) (h : Rd w w.heap.size 11 (some ⟨g, 0, none⟩) 1 x.cells) :
    Calls Try.prog 109 #[.pointer (some ⟨g, 0, none⟩)] w (FormPost w g (wordOf x.kd x.ek) (formL x.kd x.ek)) := by
 have S := (St.start w).addRd h; clear h
 refine calls_of_wC (N := 111) (vs := [.pointer (some ⟨g, 0, none⟩)]) Try.func109 rfl rfl rfl ?_
 refine cw [0] ?_
 refine x_sr (va ?_)
 iterate 2 refine va ?_
 refine wL_nil (wQ_then (wC_seq ?_))
 have S1 := S.drew; clear S
 refine wC_any_ (C := fun w' => St w.heap.size w w' [.rd 11 (some ⟨g, 0, none⟩) 1 x.cells]) (n := 12) (listed := #[false, false, false, false, false, false, false, false, false, false, false, false]) mixed rfl rfl ?_
 refine ak (v := .pointer (some ⟨g, 0, none⟩)) 0 rfl S1 (fun _ _ => ym) ?_
 refine ak (v := .pointer (some ⟨g, 0, none⟩)) 1 rfl S1 (fun _ _ => y_nil rfl rfl trivial) ?_
 refine ak (v := .pointer (some ⟨g, 1, none⟩)) 2 rfl S1 (fun _ _ => yfa _ fa39_1) ?_
 refine ak (v := .agg #[.pointer (some ⟨g, 1, none⟩), .int .i64 4]) 3 rfl S1 (fun _ _ => (y_build (vs := [(0, .pointer (some ⟨g, 1, none⟩)), (1, .int .i64 4)]) rfl ⟨rfl, rfl, rfl, rfl, trivial⟩ (by kernel_rfl))) ?_
 refine ak (v := .pointer (some ⟨g, 0, none⟩)) 4 rfl S1 (fun _ _ => ym) ?_
 refine ak (v := .pointer (some ⟨g, 0, none⟩)) 5 rfl S1 (fun _ _ => y_nil rfl rfl trivial) ?_
 refine ak (v := .pointer (some ⟨g, 2, none⟩)) 6 rfl S1 (fun _ _ => yfa _ fa39_2) ?_
 refine ak (v := .agg #[.pointer (some ⟨g, 2, none⟩), .int .i64 3]) 7 rfl S1 (fun _ _ => (y_build (vs := [(0, .pointer (some ⟨g, 2, none⟩)), (1, .int .i64 3)]) rfl ⟨rfl, rfl, rfl, rfl, trivial⟩ (by kernel_rfl))) ?_
 refine wA_two (n := 3) (r := 8) (s := 9) (by kernel_rfl) ?_ ?_
 ·refine nna (row := #[.pointer none, .int .i64 0]) 8 rfl S1 Try.zeroValue150 ?_; intro b10 w11 S12; clear S1
  refine ⟨(St.del 0 S12), ?_⟩
  refine aq1 9 ?_
  refine nna (row := #[.pointer none, .int .i64 0]) 9 rfl S12 Try.zeroValue150 ?_; intro b13 w14 S15; clear S12
  refine ⟨(S15.dels [1, 0]), ?_⟩
  refine aq1 10 ?_
  refine sn 10 rfl 1 S15 inf150 ?_; intro w16 S17; clear S15
  refine ⟨(S17.dels [1, 0]), ?_⟩
  refine aq1 11 ?_
  refine sn 11 rfl 0 S17 inf150 ?_; intro w18 S19; clear S17
  refine ⟨(S19.dels [1, 0]), ?_⟩
  refine wA_done (by kernel_rfl) ?_
  refine pk [0, 2, 3, 4, 5, 6] ?_
  refine x_tsr (vm ?_)
  refine vv (y_nil rfl rfl trivial) ?_
  refine vv (yfa 3 fa39_3) ?_
  refine vv (v := .agg #[.pointer (some ⟨g, 3, none⟩), .int .i64 1048576]) (y_build (vs := [(0, .pointer (some ⟨g, 3, none⟩)), (1, .int .i64 1048576)]) rfl ⟨rfl, rfl, rfl, rfl, trivial⟩ (by kernel_rfl)) ?_
  refine na (row := #[.pointer none, .int .i64 0]) S19 Try.zeroValue150 ?_; intro b20 w21 S22; clear S19
  refine sa 0 S22 inf150 ?_; intro w23 S24; clear S22
  refine qk [0, 2, 3, 4, 5, 6, 7] ?_
  refine x_tssr (vm ?_)
  refine vv (y_nil rfl rfl trivial) ?_
  refine vv (yfa 0 fa39_0) ?_
  refine vv (v := .int .i64 x.kd) (y_load rfl rfl (r_load Try.underlying3 rfl (Rd.cl (j := 0) (St.rd 3 S24 rfl) rfl))) ?_
  refine qk [0, 2, 3, 4, 5, 6, 7, 24] ?_
  refine x_tbsr ?_
  by_cases h25 : x.kd = 1
  ·refine vv (yeqlT h25) ?_
   refine va ?_
   refine qk [0, 2, 3, 4, 5, 6, 7, 24, 25] ?_
   refine wQ_then (wC_cond_t rfl (wC_seq ?_))
   have S26 := S24.drew; clear S24
   refine wC_any_ (C := fun w' => St w.heap.size w w' [.blk b20 #[.pointer (some ⟨g, 3, none⟩), .int .i64 1048576] 150, .blk b13 #[.pointer (some ⟨g, 2, none⟩), .int .i64 3] 150, .blk b10 #[.pointer (some ⟨g, 1, none⟩), .int .i64 4] 150, .rd 11 (some ⟨g, 0, none⟩) 1 x.cells]) (n := 6) (listed := #[false, false, false, false, false, false]) mixed rfl rfl ?_
   refine ak (v := .agg #[.pointer (some ⟨g, 2, none⟩), .int .i64 3]) 0 rfl S26 (fun _ Sx27 => ylr 1 Sx27 Try.underlying150 inf150) ?_
   refine ak (v := .agg #[.pointer (some ⟨g, 1, none⟩), .int .i64 4]) 1 rfl S26 (fun _ Sx28 => ylr 2 Sx28 Try.underlying150 inf150) ?_
   refine ak (v := .string ⟨#[109, 97, 107, 101]⟩) 3 rfl S26 (fun _ _ => ya) ?_
   refine aq1 2 ?_
   refine wN_new (i := 2) rfl rfl (V := fun b => .slice (some ⟨b, 0, none⟩) 2 2) (row := #[.pointer (some ⟨g, 2, none⟩), .int .i64 3, .pointer (some ⟨g, 1, none⟩), .int .i64 4]) (t := 150) S26 (wn rfl) rfl rfl (d_buildSlice (vs := [(0, .agg #[.pointer (some ⟨g, 2, none⟩), .int .i64 3]), (1, .agg #[.pointer (some ⟨g, 1, none⟩), .int .i64 4])]) rfl ⟨rfl, rfl, rfl, rfl, trivial⟩ (by kernel_rfl)) ?_; intro b30 w31 S32; clear S26
   refine ⟨(St.del 0 S32), ?_⟩
   refine ak (v := .slice (some ⟨b30, 0, none⟩) 2 2) 4 rfl (St.del 0 S32) (fun _ _ => ya) ?_
   refine ak (v := .bool true) 5 rfl (St.del 0 S32) (fun _ _ => ya) ?_
   refine wA_done (by kernel_rfl) ?_
   refine pk [2, 3, 4] ?_
   refine x_tech (wQ_post (rs := [.tmp 2, .tmp 3, .tmp 4]) (vs := [.string ⟨#[109, 97, 107, 101]⟩, .slice (some ⟨b30, 0, none⟩) 2 2, .bool true]) rfl ⟨rfl, rfl, rfl, trivial⟩ ?_)
   rw [show wordOf x.kd x.ek = ⟨#[109, 97, 107, 101]⟩ from by simp [wordOf, h25]]
   have S35 : St _ _ _ [_] := S32.dels [4, 3, 2, 1]; clear S32
   rw [show formL x.kd x.ek = some [(2, 3), (1, 4)] from by simp [formL, h25]]
   exact ⟨_, rfl, St.blkRdo (n := 2) (xs := ([(2, 3), (1, 4)] : List (Nat × Int)).flatMap (slotCells g)) 0 S35 rfl rfl rfl⟩
  ·refine vv (yeqlF h25) ?_
   refine va ?_
   refine qk [0, 2, 3, 4, 5, 6, 7, 24, 25] ?_
   refine x_tnsr ?_
   by_cases h36 : x.kd = 10
   ·refine vv (yeqlT h36) ?_
    refine va ?_
    refine qk [0, 2, 3, 4, 5, 6, 7, 24, 30] ?_
    refine wQ_then (wC_cond_t rfl (wC_seq ?_))
    have S37 := S24.drew; clear S24
    refine wC_any_ (C := fun w' => St w.heap.size w w' [.blk b20 #[.pointer (some ⟨g, 3, none⟩), .int .i64 1048576] 150, .blk b13 #[.pointer (some ⟨g, 2, none⟩), .int .i64 3] 150, .blk b10 #[.pointer (some ⟨g, 1, none⟩), .int .i64 4] 150, .rd 11 (some ⟨g, 0, none⟩) 1 x.cells]) (n := 6) (listed := #[false, false, false, false, false, false]) mixed rfl rfl ?_
    refine ak (v := .agg #[.pointer (some ⟨g, 2, none⟩), .int .i64 3]) 0 rfl S37 (fun _ Sx38 => ylr 1 Sx38 Try.underlying150 inf150) ?_
    refine ak (v := .agg #[.pointer (some ⟨g, 1, none⟩), .int .i64 4]) 1 rfl S37 (fun _ Sx39 => ylr 2 Sx39 Try.underlying150 inf150) ?_
    refine ak (v := .string ⟨#[109, 111, 118, 101]⟩) 3 rfl S37 (fun _ _ => ya) ?_
    refine aq1 2 ?_
    refine wN_new (i := 2) rfl rfl (V := fun b => .slice (some ⟨b, 0, none⟩) 2 2) (row := #[.pointer (some ⟨g, 2, none⟩), .int .i64 3, .pointer (some ⟨g, 1, none⟩), .int .i64 4]) (t := 150) S37 (wn rfl) rfl rfl (d_buildSlice (vs := [(0, .agg #[.pointer (some ⟨g, 2, none⟩), .int .i64 3]), (1, .agg #[.pointer (some ⟨g, 1, none⟩), .int .i64 4])]) rfl ⟨rfl, rfl, rfl, rfl, trivial⟩ (by kernel_rfl)) ?_; intro b41 w42 S43; clear S37
    refine ⟨(St.del 0 S43), ?_⟩
    refine ak (v := .slice (some ⟨b41, 0, none⟩) 2 2) 4 rfl (St.del 0 S43) (fun _ _ => ya) ?_
    refine ak (v := .bool true) 5 rfl (St.del 0 S43) (fun _ _ => ya) ?_
    refine wA_done (by kernel_rfl) ?_
    refine pk [2, 3, 4] ?_
    refine x_tech (wQ_post (rs := [.tmp 2, .tmp 3, .tmp 4]) (vs := [.string ⟨#[109, 111, 118, 101]⟩, .slice (some ⟨b41, 0, none⟩) 2 2, .bool true]) rfl ⟨rfl, rfl, rfl, trivial⟩ ?_)
    rw [show wordOf x.kd x.ek = ⟨#[109, 111, 118, 101]⟩ from by simp [wordOf, h25, h36]]
    have S46 : St _ _ _ [_] := S43.dels [4, 3, 2, 1]; clear S43
    rw [show formL x.kd x.ek = some [(2, 3), (1, 4)] from by simp [formL, h25, h36]]
    exact ⟨_, rfl, St.blkRdo (n := 2) (xs := ([(2, 3), (1, 4)] : List (Nat × Int)).flatMap (slotCells g)) 0 S46 rfl rfl rfl⟩
   ·refine vv (yeqlF h36) ?_
    refine va ?_
    refine qk [0, 2, 3, 4, 5, 6, 7, 24, 30] ?_
    refine x_tnsr ?_
    by_cases h47 : x.kd = 3
    ·refine vv (yeqlT h47) ?_
     refine va ?_
     refine qk [0, 2, 3, 4, 5, 6, 7, 24, 35] ?_
     refine wQ_then (wC_cond_t rfl (wC_seq ?_))
     have S48 := S24.drew; clear S24
     refine wC_any_ (C := fun w' => St w.heap.size w w' [.blk b20 #[.pointer (some ⟨g, 3, none⟩), .int .i64 1048576] 150, .blk b13 #[.pointer (some ⟨g, 2, none⟩), .int .i64 3] 150, .blk b10 #[.pointer (some ⟨g, 1, none⟩), .int .i64 4] 150, .rd 11 (some ⟨g, 0, none⟩) 1 x.cells]) (n := 5) (listed := #[false, false, false, false, false]) mixed rfl rfl ?_
     refine ak (v := .agg #[.pointer (some ⟨g, 1, none⟩), .int .i64 4]) 0 rfl S48 (fun _ Sx49 => ylr 2 Sx49 Try.underlying150 inf150) ?_
     refine ak (v := .string ⟨#[115, 116, 101, 112]⟩) 2 rfl S48 (fun _ _ => ya) ?_
     refine aq1 1 ?_
     refine wN_new (i := 1) rfl rfl (V := fun b => .slice (some ⟨b, 0, none⟩) 1 1) (row := #[.pointer (some ⟨g, 1, none⟩), .int .i64 4]) (t := 150) S48 (wn rfl) rfl rfl (d_buildSlice (vs := [(0, .agg #[.pointer (some ⟨g, 1, none⟩), .int .i64 4])]) rfl ⟨rfl, rfl, trivial⟩ (by kernel_rfl)) ?_; intro b51 w52 S53; clear S48
     refine ⟨(St.del 0 S53), ?_⟩
     refine ak (v := .slice (some ⟨b51, 0, none⟩) 1 1) 3 rfl (St.del 0 S53) (fun _ _ => ya) ?_
     refine ak (v := .bool true) 4 rfl (St.del 0 S53) (fun _ _ => ya) ?_
     refine wA_done (by kernel_rfl) ?_
     refine pk [2, 3, 4] ?_
     refine x_tech (wQ_post (rs := [.tmp 2, .tmp 3, .tmp 4]) (vs := [.string ⟨#[115, 116, 101, 112]⟩, .slice (some ⟨b51, 0, none⟩) 1 1, .bool true]) rfl ⟨rfl, rfl, rfl, trivial⟩ ?_)
     rw [show wordOf x.kd x.ek = ⟨#[115, 116, 101, 112]⟩ from by simp [wordOf, h25, h36, h47]]
     have S56 : St _ _ _ [_] := S53.dels [4, 3, 2, 1]; clear S53
     rw [show formL x.kd x.ek = some [(1, 4)] from by simp [formL, h25, h36, h47]]
     exact ⟨_, rfl, St.blkRdo (n := 1) (xs := ([(1, 4)] : List (Nat × Int)).flatMap (slotCells g)) 0 S56 rfl rfl rfl⟩
    ·refine vv (yeqlF h47) ?_
     refine va ?_
     refine qk [0, 2, 3, 4, 5, 6, 7, 24, 35] ?_
     refine x_tnsr ?_
     by_cases h57 : x.kd = 9
     ·refine vv (yeqlT h57) ?_
      refine va ?_
      refine qk [0, 2, 3, 4, 5, 6, 7, 24, 39] ?_
      refine wQ_then (wC_cond_t rfl (wC_seq ?_))
      have S58 := S24.drew; clear S24
      refine wC_any_ (C := fun w' => St w.heap.size w w' [.blk b20 #[.pointer (some ⟨g, 3, none⟩), .int .i64 1048576] 150, .blk b13 #[.pointer (some ⟨g, 2, none⟩), .int .i64 3] 150, .blk b10 #[.pointer (some ⟨g, 1, none⟩), .int .i64 4] 150, .rd 11 (some ⟨g, 0, none⟩) 1 x.cells]) (n := 5) (listed := #[false, false, false, false, false]) mixed rfl rfl ?_
      refine ak (v := .agg #[.pointer (some ⟨g, 1, none⟩), .int .i64 4]) 0 rfl S58 (fun _ Sx59 => ylr 2 Sx59 Try.underlying150 inf150) ?_
      refine ak (v := .string ⟨#[115, 116, 97, 114, 116]⟩) 2 rfl S58 (fun _ _ => ya) ?_
      refine aq1 1 ?_
      refine wN_new (i := 1) rfl rfl (V := fun b => .slice (some ⟨b, 0, none⟩) 1 1) (row := #[.pointer (some ⟨g, 1, none⟩), .int .i64 4]) (t := 150) S58 (wn rfl) rfl rfl (d_buildSlice (vs := [(0, .agg #[.pointer (some ⟨g, 1, none⟩), .int .i64 4])]) rfl ⟨rfl, rfl, trivial⟩ (by kernel_rfl)) ?_; intro b61 w62 S63; clear S58
      refine ⟨(St.del 0 S63), ?_⟩
      refine ak (v := .slice (some ⟨b61, 0, none⟩) 1 1) 3 rfl (St.del 0 S63) (fun _ _ => ya) ?_
      refine ak (v := .bool true) 4 rfl (St.del 0 S63) (fun _ _ => ya) ?_
      refine wA_done (by kernel_rfl) ?_
      refine pk [2, 3, 4] ?_
      refine x_tech (wQ_post (rs := [.tmp 2, .tmp 3, .tmp 4]) (vs := [.string ⟨#[115, 116, 97, 114, 116]⟩, .slice (some ⟨b61, 0, none⟩) 1 1, .bool true]) rfl ⟨rfl, rfl, rfl, trivial⟩ ?_)
      rw [show wordOf x.kd x.ek = ⟨#[115, 116, 97, 114, 116]⟩ from by simp [wordOf, h25, h36, h47, h57]]
      have S66 : St _ _ _ [_] := S63.dels [4, 3, 2, 1]; clear S63
      rw [show formL x.kd x.ek = some [(1, 4)] from by simp [formL, h25, h36, h47, h57]]
      exact ⟨_, rfl, St.blkRdo (n := 1) (xs := ([(1, 4)] : List (Nat × Int)).flatMap (slotCells g)) 0 S66 rfl rfl rfl⟩
     ·refine vv (yeqlF h57) ?_
      refine va ?_
      refine qk [0, 2, 3, 4, 5, 6, 7, 24, 39] ?_
      refine x_tnsr ?_
      by_cases h67 : x.kd = 8
      ·refine vv (yeqlT h67) ?_
       refine va ?_
       refine qk [0, 2, 3, 4, 5, 6, 7, 24, 43] ?_
       refine wQ_then (wC_cond_t rfl (wC_seq ?_))
       have S68 := S24.drew; clear S24
       refine wC_any_ (C := fun w' => St w.heap.size w w' [.blk b20 #[.pointer (some ⟨g, 3, none⟩), .int .i64 1048576] 150, .blk b13 #[.pointer (some ⟨g, 2, none⟩), .int .i64 3] 150, .blk b10 #[.pointer (some ⟨g, 1, none⟩), .int .i64 4] 150, .rd 11 (some ⟨g, 0, none⟩) 1 x.cells]) (n := 9) (listed := #[false, false, false, false, false, false, false, false, false]) mixed rfl rfl ?_
       refine ak (v := .agg #[.pointer (some ⟨g, 1, none⟩), .int .i64 4]) 0 rfl S68 (fun _ Sx69 => ylr 2 Sx69 Try.underlying150 inf150) ?_
       refine ak (v := .pointer (some ⟨g, 0, none⟩)) 1 rfl S68 (fun _ _ => ym) ?_
       refine ak (v := .pointer (some ⟨g, 0, none⟩)) 2 rfl S68 (fun _ _ => y_nil rfl rfl trivial) ?_
       refine ak (v := .pointer (some ⟨g, 4, none⟩)) 3 rfl S68 (fun _ _ => yfa _ fa39_4) ?_
       refine ak (v := .agg #[.pointer (some ⟨g, 4, none⟩), .int .i64 100000]) 4 rfl S68 (fun _ _ => (y_build (vs := [(0, .pointer (some ⟨g, 4, none⟩)), (1, .int .i64 100000)]) rfl ⟨rfl, rfl, rfl, rfl, trivial⟩ (by kernel_rfl))) ?_
       refine ak (v := .string ⟨#[99, 114, 97, 115, 104]⟩) 6 rfl S68 (fun _ _ => ya) ?_
       refine aq1 5 ?_
       refine wN_new (i := 5) rfl rfl (V := fun b => .slice (some ⟨b, 0, none⟩) 2 2) (row := #[.pointer (some ⟨g, 1, none⟩), .int .i64 4, .pointer (some ⟨g, 4, none⟩), .int .i64 100000]) (t := 150) S68 (wn rfl) rfl rfl (d_buildSlice (vs := [(0, .agg #[.pointer (some ⟨g, 1, none⟩), .int .i64 4]), (1, .agg #[.pointer (some ⟨g, 4, none⟩), .int .i64 100000])]) rfl ⟨rfl, rfl, rfl, rfl, trivial⟩ (by kernel_rfl)) ?_; intro b75 w76 S77; clear S68
       refine ⟨(St.del 0 S77), ?_⟩
       refine ak (v := .slice (some ⟨b75, 0, none⟩) 2 2) 7 rfl (St.del 0 S77) (fun _ _ => ya) ?_
       refine ak (v := .bool true) 8 rfl (St.del 0 S77) (fun _ _ => ya) ?_
       refine wA_done (by kernel_rfl) ?_
       refine pk [2, 3, 4] ?_
       refine x_tech (wQ_post (rs := [.tmp 2, .tmp 3, .tmp 4]) (vs := [.string ⟨#[99, 114, 97, 115, 104]⟩, .slice (some ⟨b75, 0, none⟩) 2 2, .bool true]) rfl ⟨rfl, rfl, rfl, trivial⟩ ?_)
       rw [show wordOf x.kd x.ek = ⟨#[99, 114, 97, 115, 104]⟩ from by simp [wordOf, h25, h36, h47, h57, h67]]
       have S80 : St _ _ _ [_] := S77.dels [4, 3, 2, 1]; clear S77
       rw [show formL x.kd x.ek = some [(1, 4), (4, 100000)] from by simp [formL, h25, h36, h47, h57, h67]]
       exact ⟨_, rfl, St.blkRdo (n := 2) (xs := ([(1, 4), (4, 100000)] : List (Nat × Int)).flatMap (slotCells g)) 0 S80 rfl rfl rfl⟩
      ·refine vv (yeqlF h67) ?_
       refine va ?_
       refine qk [0, 2, 3, 4, 5, 6, 7, 24, 43] ?_
       refine x_tnsr ?_
       by_cases h81 : x.kd = 4
       ·refine vv (yeqlT h81) ?_
        refine va ?_
        refine qk [0, 2, 3, 4, 5, 6, 7, 24, 51] ?_
        refine wQ_then (wC_cond_t rfl (wC_seq ?_))
        have S82 := S24.drew; clear S24
        refine wC_any_ (C := fun w' => St w.heap.size w w' [.blk b20 #[.pointer (some ⟨g, 3, none⟩), .int .i64 1048576] 150, .blk b13 #[.pointer (some ⟨g, 2, none⟩), .int .i64 3] 150, .blk b10 #[.pointer (some ⟨g, 1, none⟩), .int .i64 4] 150, .rd 11 (some ⟨g, 0, none⟩) 1 x.cells]) (n := 5) (listed := #[false, false, false, false, false]) mixed rfl rfl ?_
        refine ak (v := .agg #[.pointer (some ⟨g, 3, none⟩), .int .i64 1048576]) 0 rfl S82 (fun _ Sx83 => ylr 0 Sx83 Try.underlying150 inf150) ?_
        refine ak (v := .string ⟨#[99, 97, 114, 114, 121]⟩) 2 rfl S82 (fun _ _ => ya) ?_
        refine aq1 1 ?_
        refine wN_new (i := 1) rfl rfl (V := fun b => .slice (some ⟨b, 0, none⟩) 1 1) (row := #[.pointer (some ⟨g, 3, none⟩), .int .i64 1048576]) (t := 150) S82 (wn rfl) rfl rfl (d_buildSlice (vs := [(0, .agg #[.pointer (some ⟨g, 3, none⟩), .int .i64 1048576])]) rfl ⟨rfl, rfl, trivial⟩ (by kernel_rfl)) ?_; intro b85 w86 S87; clear S82
        refine ⟨(St.del 0 S87), ?_⟩
        refine ak (v := .slice (some ⟨b85, 0, none⟩) 1 1) 3 rfl (St.del 0 S87) (fun _ _ => ya) ?_
        refine ak (v := .bool true) 4 rfl (St.del 0 S87) (fun _ _ => ya) ?_
        refine wA_done (by kernel_rfl) ?_
        refine pk [2, 3, 4] ?_
        refine x_tech (wQ_post (rs := [.tmp 2, .tmp 3, .tmp 4]) (vs := [.string ⟨#[99, 97, 114, 114, 121]⟩, .slice (some ⟨b85, 0, none⟩) 1 1, .bool true]) rfl ⟨rfl, rfl, rfl, trivial⟩ ?_)
        rw [show wordOf x.kd x.ek = ⟨#[99, 97, 114, 114, 121]⟩ from by simp [wordOf, h25, h36, h47, h57, h67, h81]]
        have S90 : St _ _ _ [_] := S87.dels [4, 3, 2, 1]; clear S87
        rw [show formL x.kd x.ek = some [(3, 1048576)] from by simp [formL, h25, h36, h47, h57, h67, h81]]
        exact ⟨_, rfl, St.blkRdo (n := 1) (xs := ([(3, 1048576)] : List (Nat × Int)).flatMap (slotCells g)) 0 S90 rfl rfl rfl⟩
       ·refine vv (yeqlF h81) ?_
        refine va ?_
        refine qk [0, 2, 3, 4, 5, 6, 7, 24, 51] ?_
        refine x_tnsr ?_
        by_cases h91 : x.kd = 5
        ·refine vv (yeqlT h91) ?_
         refine va ?_
         refine qk [0, 2, 3, 4, 5, 6, 7, 24, 55] ?_
         refine wQ_then (wC_cond_t rfl (wC_seq ?_))
         have S92 := S24.drew; clear S24
         refine wC_any_ (C := fun w' => St w.heap.size w w' [.blk b20 #[.pointer (some ⟨g, 3, none⟩), .int .i64 1048576] 150, .blk b13 #[.pointer (some ⟨g, 2, none⟩), .int .i64 3] 150, .blk b10 #[.pointer (some ⟨g, 1, none⟩), .int .i64 4] 150, .rd 11 (some ⟨g, 0, none⟩) 1 x.cells]) (n := 5) (listed := #[false, false, false, false, false]) mixed rfl rfl ?_
         refine ak (v := .agg #[.pointer (some ⟨g, 3, none⟩), .int .i64 1048576]) 0 rfl S92 (fun _ Sx93 => ylr 0 Sx93 Try.underlying150 inf150) ?_
         refine ak (v := .string ⟨#[108, 111, 115, 101]⟩) 2 rfl S92 (fun _ _ => ya) ?_
         refine aq1 1 ?_
         refine wN_new (i := 1) rfl rfl (V := fun b => .slice (some ⟨b, 0, none⟩) 1 1) (row := #[.pointer (some ⟨g, 3, none⟩), .int .i64 1048576]) (t := 150) S92 (wn rfl) rfl rfl (d_buildSlice (vs := [(0, .agg #[.pointer (some ⟨g, 3, none⟩), .int .i64 1048576])]) rfl ⟨rfl, rfl, trivial⟩ (by kernel_rfl)) ?_; intro b95 w96 S97; clear S92
         refine ⟨(St.del 0 S97), ?_⟩
         refine ak (v := .slice (some ⟨b95, 0, none⟩) 1 1) 3 rfl (St.del 0 S97) (fun _ _ => ya) ?_
         refine ak (v := .bool true) 4 rfl (St.del 0 S97) (fun _ _ => ya) ?_
         refine wA_done (by kernel_rfl) ?_
         refine pk [2, 3, 4] ?_
         refine x_tech (wQ_post (rs := [.tmp 2, .tmp 3, .tmp 4]) (vs := [.string ⟨#[108, 111, 115, 101]⟩, .slice (some ⟨b95, 0, none⟩) 1 1, .bool true]) rfl ⟨rfl, rfl, rfl, trivial⟩ ?_)
         rw [show wordOf x.kd x.ek = ⟨#[108, 111, 115, 101]⟩ from by simp [wordOf, h25, h36, h47, h57, h67, h81, h91]]
         have S100 : St _ _ _ [_] := S97.dels [4, 3, 2, 1]; clear S97
         rw [show formL x.kd x.ek = some [(3, 1048576)] from by simp [formL, h25, h36, h47, h57, h67, h81, h91]]
         exact ⟨_, rfl, St.blkRdo (n := 1) (xs := ([(3, 1048576)] : List (Nat × Int)).flatMap (slotCells g)) 0 S100 rfl rfl rfl⟩
        ·refine vv (yeqlF h91) ?_
         refine va ?_
         refine qk [0, 2, 3, 4, 5, 6, 7, 24, 55] ?_
         refine x_tnsr ?_
         by_cases h101 : x.kd = 6
         ·refine vv (yeqlT h101) ?_
          refine va ?_
          refine qk [0, 2, 3, 4, 5, 6, 7, 24, 59] ?_
          refine wQ_then (wC_cond_t rfl (wC_seq ?_))
          have S102 := S24.drew; clear S24
          refine wC_any_ (C := fun w' => St w.heap.size w w' [.blk b20 #[.pointer (some ⟨g, 3, none⟩), .int .i64 1048576] 150, .blk b13 #[.pointer (some ⟨g, 2, none⟩), .int .i64 3] 150, .blk b10 #[.pointer (some ⟨g, 1, none⟩), .int .i64 4] 150, .rd 11 (some ⟨g, 0, none⟩) 1 x.cells]) (n := 5) (listed := #[false, false, false, false, false]) mixed rfl rfl ?_
          refine ak (v := .agg #[.pointer (some ⟨g, 3, none⟩), .int .i64 1048576]) 0 rfl S102 (fun _ Sx103 => ylr 0 Sx103 Try.underlying150 inf150) ?_
          refine ak (v := .string ⟨#[100, 111, 117, 98, 108, 101]⟩) 2 rfl S102 (fun _ _ => ya) ?_
          refine aq1 1 ?_
          refine wN_new (i := 1) rfl rfl (V := fun b => .slice (some ⟨b, 0, none⟩) 1 1) (row := #[.pointer (some ⟨g, 3, none⟩), .int .i64 1048576]) (t := 150) S102 (wn rfl) rfl rfl (d_buildSlice (vs := [(0, .agg #[.pointer (some ⟨g, 3, none⟩), .int .i64 1048576])]) rfl ⟨rfl, rfl, trivial⟩ (by kernel_rfl)) ?_; intro b105 w106 S107; clear S102
          refine ⟨(St.del 0 S107), ?_⟩
          refine ak (v := .slice (some ⟨b105, 0, none⟩) 1 1) 3 rfl (St.del 0 S107) (fun _ _ => ya) ?_
          refine ak (v := .bool true) 4 rfl (St.del 0 S107) (fun _ _ => ya) ?_
          refine wA_done (by kernel_rfl) ?_
          refine pk [2, 3, 4] ?_
          refine x_tech (wQ_post (rs := [.tmp 2, .tmp 3, .tmp 4]) (vs := [.string ⟨#[100, 111, 117, 98, 108, 101]⟩, .slice (some ⟨b105, 0, none⟩) 1 1, .bool true]) rfl ⟨rfl, rfl, rfl, trivial⟩ ?_)
          rw [show wordOf x.kd x.ek = ⟨#[100, 111, 117, 98, 108, 101]⟩ from by simp [wordOf, h25, h36, h47, h57, h67, h81, h91, h101]]
          have S110 : St _ _ _ [_] := S107.dels [4, 3, 2, 1]; clear S107
          rw [show formL x.kd x.ek = some [(3, 1048576)] from by simp [formL, h25, h36, h47, h57, h67, h81, h91, h101]]
          exact ⟨_, rfl, St.blkRdo (n := 1) (xs := ([(3, 1048576)] : List (Nat × Int)).flatMap (slotCells g)) 0 S110 rfl rfl rfl⟩
         ·refine vv (yeqlF h101) ?_
          refine va ?_
          refine qk [0, 2, 3, 4, 5, 6, 7, 24, 59] ?_
          refine x_tnsr ?_
          by_cases h111 : x.kd = 7
          ·refine vv (yeqlT h111) ?_
           refine va ?_
           refine qk [0, 2, 3, 4, 5, 6, 24, 63] ?_
           refine x_tysr (va ?_)
           iterate 2 refine va ?_
           refine qk [2, 3, 4] ?_
           refine x_tech (wQ_post (rs := [.tmp 2, .tmp 3, .tmp 4]) (vs := [.string ⟨#[97, 108, 108]⟩, .slice none 0 0, .bool true]) rfl ⟨rfl, rfl, rfl, trivial⟩ ?_)
           rw [show wordOf x.kd x.ek = ⟨#[97, 108, 108]⟩ from by simp [wordOf, h25, h36, h47, h57, h67, h81, h91, h101, h111]]
           have S112 : St _ _ _ [] := S24.dels [3, 2, 1, 0]; clear S24
           rw [show formL x.kd x.ek = some [] from by simp [formL, h25, h36, h47, h57, h67, h81, h91, h101, h111]]
           exact ⟨none, rfl, rdo_nil S112⟩
          ·refine vv (yeqlF h111) ?_
           refine va ?_
           refine qk [0, 2, 3, 4, 5, 6, 24, 63] ?_
           refine x_tnsr ?_
           by_cases h113 : x.kd = 2
           ·refine vv (yeqlT h113) ?_
            refine va ?_
            refine qk [0, 2, 3, 4, 5, 6, 65] ?_
            refine x_tysr (vm ?_)
            refine vv (y_nil rfl rfl trivial) ?_
            refine vv (yfa 5 fa39_5) ?_
            refine va ?_
            refine qk [2, 3, 4, 5, 6, 8] ?_
            refine x_tsr (vm ?_)
            refine vv (y_nil rfl rfl trivial) ?_
            refine vv (yfa 5 fa37_0) ?_
            refine vv (v := .int .i64 x.ek) (y_load rfl rfl (r_load Try.underlying3 rfl (Rd.cl (j := 5) (St.rd 3 S24 rfl) rfl))) ?_
            refine qk [2, 3, 4, 5, 6, 8, 73] ?_
            refine x_tbsr ?_
            by_cases h114 : x.ek = 1
            ·refine vv (yeqlT h114) ?_
             refine va ?_
             refine qk [2, 3, 4, 5, 6, 8, 73, 74] ?_
             refine wQ_then (wC_cond_t rfl (wC_seq ?_))
             have S115 := S24.drew; clear S24
             refine wC_any_ (C := fun w' => St w.heap.size w w' [.blk b20 #[.pointer (some ⟨g, 3, none⟩), .int .i64 1048576] 150, .blk b13 #[.pointer (some ⟨g, 2, none⟩), .int .i64 3] 150, .blk b10 #[.pointer (some ⟨g, 1, none⟩), .int .i64 4] 150, .rd 11 (some ⟨g, 0, none⟩) 1 x.cells]) (n := 18) (listed := #[false, false, false, false, false, false, false, false, false, false, false, false, false, false, false, false, false, false]) mixed rfl rfl ?_
             refine ak (v := .agg #[.pointer (some ⟨g, 1, none⟩), .int .i64 4]) 0 rfl S115 (fun _ Sx116 => ylr 2 Sx116 Try.underlying150 inf150) ?_
             refine ak (v := .agg #[.pointer (some ⟨g, 2, none⟩), .int .i64 3]) 1 rfl S115 (fun _ Sx117 => ylr 1 Sx117 Try.underlying150 inf150) ?_
             refine ak (v := .pointer (some ⟨g, 5, none⟩)) 2 rfl S115 (fun _ _ => ym) ?_
             refine ak (v := .pointer (some ⟨g, 5, none⟩)) 3 rfl S115 (fun _ _ => y_nil rfl rfl trivial) ?_
             refine ak (v := .pointer (some ⟨g, 6, none⟩)) 4 rfl S115 (fun _ _ => yfa _ fa37_1) ?_
             refine ak (v := .agg #[.pointer (some ⟨g, 6, none⟩), .int .i64 3]) 5 rfl S115 (fun _ _ => (y_build (vs := [(0, .pointer (some ⟨g, 6, none⟩)), (1, .int .i64 3)]) rfl ⟨rfl, rfl, rfl, rfl, trivial⟩ (by kernel_rfl))) ?_
             refine ak (v := .pointer (some ⟨g, 5, none⟩)) 6 rfl S115 (fun _ _ => ym) ?_
             refine ak (v := .pointer (some ⟨g, 5, none⟩)) 7 rfl S115 (fun _ _ => y_nil rfl rfl trivial) ?_
             refine ak (v := .pointer (some ⟨g, 7, none⟩)) 8 rfl S115 (fun _ _ => yfa _ fa37_2) ?_
             refine ak (v := .agg #[.pointer (some ⟨g, 7, none⟩), .int .i64 1073741824]) 9 rfl S115 (fun _ _ => (y_build (vs := [(0, .pointer (some ⟨g, 7, none⟩)), (1, .int .i64 1073741824)]) rfl ⟨rfl, rfl, rfl, rfl, trivial⟩ (by kernel_rfl))) ?_
             refine ak (v := .pointer (some ⟨g, 5, none⟩)) 10 rfl S115 (fun _ _ => ym) ?_
             refine ak (v := .pointer (some ⟨g, 5, none⟩)) 11 rfl S115 (fun _ _ => y_nil rfl rfl trivial) ?_
             refine ak (v := .pointer (some ⟨g, 8, none⟩)) 12 rfl S115 (fun _ _ => yfa _ fa37_3) ?_
             refine ak (v := .agg #[.pointer (some ⟨g, 8, none⟩), .int .i64 1000000]) 13 rfl S115 (fun _ _ => (y_build (vs := [(0, .pointer (some ⟨g, 8, none⟩)), (1, .int .i64 1000000)]) rfl ⟨rfl, rfl, rfl, rfl, trivial⟩ (by kernel_rfl))) ?_
             refine ak (v := .string ⟨#[112, 117, 98, 108, 105, 115, 104]⟩) 15 rfl S115 (fun _ _ => ya) ?_
             refine aq1 14 ?_
             refine wN_new (i := 14) rfl rfl (V := fun b => .slice (some ⟨b, 0, none⟩) 5 5) (row := #[.pointer (some ⟨g, 1, none⟩), .int .i64 4, .pointer (some ⟨g, 2, none⟩), .int .i64 3, .pointer (some ⟨g, 6, none⟩), .int .i64 3, .pointer (some ⟨g, 7, none⟩), .int .i64 1073741824, .pointer (some ⟨g, 8, none⟩), .int .i64 1000000]) (t := 150) S115 (wn rfl) rfl rfl (d_buildSlice (vs := [(0, .agg #[.pointer (some ⟨g, 1, none⟩), .int .i64 4]), (1, .agg #[.pointer (some ⟨g, 2, none⟩), .int .i64 3]), (2, .agg #[.pointer (some ⟨g, 6, none⟩), .int .i64 3]), (3, .agg #[.pointer (some ⟨g, 7, none⟩), .int .i64 1073741824]), (4, .agg #[.pointer (some ⟨g, 8, none⟩), .int .i64 1000000])]) rfl ⟨rfl, rfl, rfl, rfl, rfl, rfl, rfl, rfl, rfl, rfl, trivial⟩ (by kernel_rfl)) ?_; intro b131 w132 S133; clear S115
             refine ⟨(St.del 0 S133), ?_⟩
             refine ak (v := .slice (some ⟨b131, 0, none⟩) 5 5) 16 rfl (St.del 0 S133) (fun _ _ => ya) ?_
             refine ak (v := .bool true) 17 rfl (St.del 0 S133) (fun _ _ => ya) ?_
             refine wA_done (by kernel_rfl) ?_
             refine pk [2, 3, 4] ?_
             refine wQ_then (wC_ret (wQ_blk_ret (wQ_blk_ret (wQ_then_ret (wQ_post (rs := [.tmp 2, .tmp 3, .tmp 4]) (vs := [.string ⟨#[112, 117, 98, 108, 105, 115, 104]⟩, .slice (some ⟨b131, 0, none⟩) 5 5, .bool true]) rfl ⟨rfl, rfl, rfl, trivial⟩ ?_)))))
             rw [show wordOf x.kd x.ek = ⟨#[112, 117, 98, 108, 105, 115, 104]⟩ from by simp [wordOf, h25, h36, h47, h57, h67, h81, h91, h101, h111, h113, h114]]
             have S136 : St _ _ _ [_] := S133.dels [4, 3, 2, 1]; clear S133
             rw [show formL x.kd x.ek = some [(1, 4), (2, 3), (6, 3), (7, 1073741824), (8, 1000000)] from by simp [formL, h25, h36, h47, h57, h67, h81, h91, h101, h111, h113, h114]]
             exact ⟨_, rfl, St.blkRdo (n := 5) (xs := ([(1, 4), (2, 3), (6, 3), (7, 1073741824), (8, 1000000)] : List (Nat × Int)).flatMap (slotCells g)) 0 S136 rfl rfl rfl⟩
            ·refine vv (yeqlF h114) ?_
             refine va ?_
             refine qk [2, 3, 4, 5, 6, 8, 73, 74] ?_
             refine x_tnsr ?_
             by_cases h137 : x.ek = 2
             ·refine vv (yeqlT h137) ?_
              refine va ?_
              refine qk [2, 3, 4, 5, 6, 8, 73, 91] ?_
              refine wQ_then (wC_cond_t rfl (wC_seq ?_))
              have S138 := S24.drew; clear S24
              refine wC_any_ (C := fun w' => St w.heap.size w w' [.blk b20 #[.pointer (some ⟨g, 3, none⟩), .int .i64 1048576] 150, .blk b13 #[.pointer (some ⟨g, 2, none⟩), .int .i64 3] 150, .blk b10 #[.pointer (some ⟨g, 1, none⟩), .int .i64 4] 150, .rd 11 (some ⟨g, 0, none⟩) 1 x.cells]) (n := 6) (listed := #[false, false, false, false, false, false]) mixed rfl rfl ?_
              refine ak (v := .agg #[.pointer (some ⟨g, 1, none⟩), .int .i64 4]) 0 rfl S138 (fun _ Sx139 => ylr 2 Sx139 Try.underlying150 inf150) ?_
              refine ak (v := .agg #[.pointer (some ⟨g, 2, none⟩), .int .i64 3]) 1 rfl S138 (fun _ Sx140 => ylr 1 Sx140 Try.underlying150 inf150) ?_
              refine ak (v := .string ⟨#[114, 101, 99, 101, 105, 118, 101]⟩) 3 rfl S138 (fun _ _ => ya) ?_
              refine aq1 2 ?_
              refine wN_new (i := 2) rfl rfl (V := fun b => .slice (some ⟨b, 0, none⟩) 2 2) (row := #[.pointer (some ⟨g, 1, none⟩), .int .i64 4, .pointer (some ⟨g, 2, none⟩), .int .i64 3]) (t := 150) S138 (wn rfl) rfl rfl (d_buildSlice (vs := [(0, .agg #[.pointer (some ⟨g, 1, none⟩), .int .i64 4]), (1, .agg #[.pointer (some ⟨g, 2, none⟩), .int .i64 3])]) rfl ⟨rfl, rfl, rfl, rfl, trivial⟩ (by kernel_rfl)) ?_; intro b142 w143 S144; clear S138
              refine ⟨(St.del 0 S144), ?_⟩
              refine ak (v := .slice (some ⟨b142, 0, none⟩) 2 2) 4 rfl (St.del 0 S144) (fun _ _ => ya) ?_
              refine ak (v := .bool true) 5 rfl (St.del 0 S144) (fun _ _ => ya) ?_
              refine wA_done (by kernel_rfl) ?_
              refine pk [2, 3, 4] ?_
              refine wQ_then (wC_ret (wQ_blk_ret (wQ_blk_ret (wQ_then_ret (wQ_post (rs := [.tmp 2, .tmp 3, .tmp 4]) (vs := [.string ⟨#[114, 101, 99, 101, 105, 118, 101]⟩, .slice (some ⟨b142, 0, none⟩) 2 2, .bool true]) rfl ⟨rfl, rfl, rfl, trivial⟩ ?_)))))
              rw [show wordOf x.kd x.ek = ⟨#[114, 101, 99, 101, 105, 118, 101]⟩ from by simp [wordOf, h25, h36, h47, h57, h67, h81, h91, h101, h111, h113, h114, h137]]
              have S147 : St _ _ _ [_] := S144.dels [4, 3, 2, 1]; clear S144
              rw [show formL x.kd x.ek = some [(1, 4), (2, 3)] from by simp [formL, h25, h36, h47, h57, h67, h81, h91, h101, h111, h113, h114, h137]]
              exact ⟨_, rfl, St.blkRdo (n := 2) (xs := ([(1, 4), (2, 3)] : List (Nat × Int)).flatMap (slotCells g)) 0 S147 rfl rfl rfl⟩
             ·refine vv (yeqlF h137) ?_
              refine va ?_
              refine qk [2, 3, 4, 5, 6, 8, 73, 91] ?_
              refine x_tnsr ?_
              by_cases h148 : x.ek = 3
              ·refine vv (yeqlT h148) ?_
               refine va ?_
               refine qk [2, 3, 4, 5, 6, 8, 96] ?_
               refine wQ_then (wC_cond_t rfl (wC_seq ?_))
               have S149 := S24.drew; clear S24
               refine wC_any_ (C := fun w' => St w.heap.size w w' [.blk b20 #[.pointer (some ⟨g, 3, none⟩), .int .i64 1048576] 150, .blk b13 #[.pointer (some ⟨g, 2, none⟩), .int .i64 3] 150, .blk b10 #[.pointer (some ⟨g, 1, none⟩), .int .i64 4] 150, .rd 11 (some ⟨g, 0, none⟩) 1 x.cells]) (n := 16) (listed := #[false, false, false, false, false, false, false, false, false, false, false, false, false, false, false, false]) mixed rfl rfl ?_
               refine ak (v := .agg #[.pointer (some ⟨g, 1, none⟩), .int .i64 4]) 0 rfl S149 (fun _ Sx150 => ylr 2 Sx150 Try.underlying150 inf150) ?_
               refine ak (v := .agg #[.pointer (some ⟨g, 2, none⟩), .int .i64 3]) 1 rfl S149 (fun _ Sx151 => ylr 1 Sx151 Try.underlying150 inf150) ?_
               refine ak (v := .pointer (some ⟨g, 5, none⟩)) 2 rfl S149 (fun _ _ => ym) ?_
               refine ak (v := .pointer (some ⟨g, 5, none⟩)) 3 rfl S149 (fun _ _ => y_nil rfl rfl trivial) ?_
               refine ak (v := .pointer (some ⟨g, 9, none⟩)) 4 rfl S149 (fun _ _ => yfa _ fa37_4) ?_
               refine ak (v := .pointer (some ⟨g, 9, none⟩)) 5 rfl S149 (fun _ _ => yfa _ fa35_0) ?_
               refine ak (v := .agg #[.pointer (some ⟨g, 9, none⟩), .int .i64 1048576]) 6 rfl S149 (fun _ _ => (y_build (vs := [(0, .pointer (some ⟨g, 9, none⟩)), (1, .int .i64 1048576)]) rfl ⟨rfl, rfl, rfl, rfl, trivial⟩ (by kernel_rfl))) ?_
               refine ak (v := .pointer (some ⟨g, 5, none⟩)) 7 rfl S149 (fun _ _ => ym) ?_
               refine ak (v := .pointer (some ⟨g, 5, none⟩)) 8 rfl S149 (fun _ _ => y_nil rfl rfl trivial) ?_
               refine ak (v := .pointer (some ⟨g, 9, none⟩)) 9 rfl S149 (fun _ _ => yfa _ fa37_4) ?_
               refine ak (v := .pointer (some ⟨g, 10, none⟩)) 10 rfl S149 (fun _ _ => yfa _ fa35_1) ?_
               refine ak (v := .agg #[.pointer (some ⟨g, 10, none⟩), .int .i64 1073741824]) 11 rfl S149 (fun _ _ => (y_build (vs := [(0, .pointer (some ⟨g, 10, none⟩)), (1, .int .i64 1073741824)]) rfl ⟨rfl, rfl, rfl, rfl, trivial⟩ (by kernel_rfl))) ?_
               refine ak (v := .string ⟨#[97, 99, 107]⟩) 13 rfl S149 (fun _ _ => ya) ?_
               refine aq1 12 ?_
               refine wN_new (i := 12) rfl rfl (V := fun b => .slice (some ⟨b, 0, none⟩) 4 4) (row := #[.pointer (some ⟨g, 1, none⟩), .int .i64 4, .pointer (some ⟨g, 2, none⟩), .int .i64 3, .pointer (some ⟨g, 9, none⟩), .int .i64 1048576, .pointer (some ⟨g, 10, none⟩), .int .i64 1073741824]) (t := 150) S149 (wn rfl) rfl rfl (d_buildSlice (vs := [(0, .agg #[.pointer (some ⟨g, 1, none⟩), .int .i64 4]), (1, .agg #[.pointer (some ⟨g, 2, none⟩), .int .i64 3]), (2, .agg #[.pointer (some ⟨g, 9, none⟩), .int .i64 1048576]), (3, .agg #[.pointer (some ⟨g, 10, none⟩), .int .i64 1073741824])]) rfl ⟨rfl, rfl, rfl, rfl, rfl, rfl, rfl, rfl, trivial⟩ (by kernel_rfl)) ?_; intro b163 w164 S165; clear S149
               refine ⟨(St.del 0 S165), ?_⟩
               refine ak (v := .slice (some ⟨b163, 0, none⟩) 4 4) 14 rfl (St.del 0 S165) (fun _ _ => ya) ?_
               refine ak (v := .bool true) 15 rfl (St.del 0 S165) (fun _ _ => ya) ?_
               refine wA_done (by kernel_rfl) ?_
               refine pk [2, 3, 4] ?_
               refine wQ_then (wC_ret (wQ_blk_ret (wQ_blk_ret (wQ_then_ret (wQ_post (rs := [.tmp 2, .tmp 3, .tmp 4]) (vs := [.string ⟨#[97, 99, 107]⟩, .slice (some ⟨b163, 0, none⟩) 4 4, .bool true]) rfl ⟨rfl, rfl, rfl, trivial⟩ ?_)))))
               rw [show wordOf x.kd x.ek = ⟨#[97, 99, 107]⟩ from by simp [wordOf, h25, h36, h47, h57, h67, h81, h91, h101, h111, h113, h114, h137, h148]]
               have S168 : St _ _ _ [_] := S165.dels [4, 3, 2, 1]; clear S165
               rw [show formL x.kd x.ek = some [(1, 4), (2, 3), (9, 1048576), (10, 1073741824)] from by simp [formL, h25, h36, h47, h57, h67, h81, h91, h101, h111, h113, h114, h137, h148]]
               exact ⟨_, rfl, St.blkRdo (n := 4) (xs := ([(1, 4), (2, 3), (9, 1048576), (10, 1073741824)] : List (Nat × Int)).flatMap (slotCells g)) 0 S168 rfl rfl rfl⟩
              ·refine vv (yeqlF h148) ?_
               refine va ?_
               refine qk [2, 3, 4, 5, 6, 8, 96] ?_
               refine wQ_then (wC_cond_f rfl (wC_skip (wQ_blk_n (wQ_blk_n (wQ_then (wC_seq (wC_region (va ?_))))))))
               iterate 2 refine va ?_
               refine qk [2, 3, 4] ?_
               refine x_te (wQ_post (rs := [.tmp 2, .tmp 3, .tmp 4]) (vs := [.string ⟨#[]⟩, .slice none 0 0, .bool false]) rfl ⟨rfl, rfl, rfl, trivial⟩ ?_)
               rw [show wordOf x.kd x.ek = ⟨#[]⟩ from by simp [wordOf, h25, h36, h47, h57, h67, h81, h91, h101, h111, h113, h114, h137, h148]]
               rw [show formL x.kd x.ek = none from by simp [formL, h25, h36, h47, h57, h67, h81, h91, h101, h111, h113, h114, h137, h148]]
               exact ⟨rfl, S24.low⟩
           ·refine vv (yeqlF h113) ?_
            refine va ?_
            refine qk [0, 2, 3, 4, 5, 6, 65] ?_
            refine wQ_then (wC_cond_f rfl (wC_skip (wQ_blk_n (wQ_then (wC_seq (wC_region (va ?_)))))))
            iterate 2 refine va ?_
            refine qk [2, 3, 4] ?_
            refine x_te (wQ_post (rs := [.tmp 2, .tmp 3, .tmp 4]) (vs := [.string ⟨#[]⟩, .slice none 0 0, .bool false]) rfl ⟨rfl, rfl, rfl, trivial⟩ ?_)
            rw [show wordOf x.kd x.ek = ⟨#[]⟩ from by simp [wordOf, h25, h36, h47, h57, h67, h81, h91, h101, h111, h113]]
            rw [show formL x.kd x.ek = none from by simp [formL, h25, h36, h47, h57, h67, h81, h91, h101, h111, h113]]
            exact ⟨rfl, S24.low⟩
 ·refine nna (row := #[.pointer none, .int .i64 0]) 9 rfl S1 Try.zeroValue150 ?_; intro b169 w170 S171; clear S1
  refine ⟨(St.del 0 S171), ?_⟩
  refine aq1 8 ?_
  refine nna (row := #[.pointer none, .int .i64 0]) 8 rfl S171 Try.zeroValue150 ?_; intro b172 w173 S174; clear S171
  refine ⟨(S174.dels [1, 0]), ?_⟩
  refine aq1 10 ?_
  refine sn 10 rfl 0 S174 inf150 ?_; intro w175 S176; clear S174
  refine ⟨(S176.dels [1, 0]), ?_⟩
  refine aq1 11 ?_
  refine sn 11 rfl 1 S176 inf150 ?_; intro w177 S178; clear S176
  refine ⟨(S178.dels [1, 0]), ?_⟩
  refine wA_done (by kernel_rfl) ?_
  refine pk [0, 2, 3, 4, 6, 5] ?_
  refine x_tsr (vm ?_)
  refine vv (y_nil rfl rfl trivial) ?_
  refine vv (yfa 3 fa39_3) ?_
  refine vv (v := .agg #[.pointer (some ⟨g, 3, none⟩), .int .i64 1048576]) (y_build (vs := [(0, .pointer (some ⟨g, 3, none⟩)), (1, .int .i64 1048576)]) rfl ⟨rfl, rfl, rfl, rfl, trivial⟩ (by kernel_rfl)) ?_
  refine na (row := #[.pointer none, .int .i64 0]) S178 Try.zeroValue150 ?_; intro b179 w180 S181; clear S178
  refine sa 0 S181 inf150 ?_; intro w182 S183; clear S181
  refine qk [0, 2, 3, 4, 6, 5, 7] ?_
  refine x_tssr (vm ?_)
  refine vv (y_nil rfl rfl trivial) ?_
  refine vv (yfa 0 fa39_0) ?_
  refine vv (v := .int .i64 x.kd) (y_load rfl rfl (r_load Try.underlying3 rfl (Rd.cl (j := 0) (St.rd 3 S183 rfl) rfl))) ?_
  refine qk [0, 2, 3, 4, 6, 5, 7, 24] ?_
  refine x_tbsr ?_
  by_cases h184 : x.kd = 1
  ·refine vv (yeqlT h184) ?_
   refine va ?_
   refine qk [0, 2, 3, 4, 6, 5, 7, 24, 25] ?_
   refine wQ_then (wC_cond_t rfl (wC_seq ?_))
   have S185 := S183.drew; clear S183
   refine wC_any_ (C := fun w' => St w.heap.size w w' [.blk b179 #[.pointer (some ⟨g, 3, none⟩), .int .i64 1048576] 150, .blk b172 #[.pointer (some ⟨g, 1, none⟩), .int .i64 4] 150, .blk b169 #[.pointer (some ⟨g, 2, none⟩), .int .i64 3] 150, .rd 11 (some ⟨g, 0, none⟩) 1 x.cells]) (n := 6) (listed := #[false, false, false, false, false, false]) mixed rfl rfl ?_
   refine ak (v := .agg #[.pointer (some ⟨g, 2, none⟩), .int .i64 3]) 0 rfl S185 (fun _ Sx186 => ylr 2 Sx186 Try.underlying150 inf150) ?_
   refine ak (v := .agg #[.pointer (some ⟨g, 1, none⟩), .int .i64 4]) 1 rfl S185 (fun _ Sx187 => ylr 1 Sx187 Try.underlying150 inf150) ?_
   refine ak (v := .string ⟨#[109, 97, 107, 101]⟩) 3 rfl S185 (fun _ _ => ya) ?_
   refine aq1 2 ?_
   refine wN_new (i := 2) rfl rfl (V := fun b => .slice (some ⟨b, 0, none⟩) 2 2) (row := #[.pointer (some ⟨g, 2, none⟩), .int .i64 3, .pointer (some ⟨g, 1, none⟩), .int .i64 4]) (t := 150) S185 (wn rfl) rfl rfl (d_buildSlice (vs := [(0, .agg #[.pointer (some ⟨g, 2, none⟩), .int .i64 3]), (1, .agg #[.pointer (some ⟨g, 1, none⟩), .int .i64 4])]) rfl ⟨rfl, rfl, rfl, rfl, trivial⟩ (by kernel_rfl)) ?_; intro b189 w190 S191; clear S185
   refine ⟨(St.del 0 S191), ?_⟩
   refine ak (v := .slice (some ⟨b189, 0, none⟩) 2 2) 4 rfl (St.del 0 S191) (fun _ _ => ya) ?_
   refine ak (v := .bool true) 5 rfl (St.del 0 S191) (fun _ _ => ya) ?_
   refine wA_done (by kernel_rfl) ?_
   refine pk [2, 3, 4] ?_
   refine x_tech (wQ_post (rs := [.tmp 2, .tmp 3, .tmp 4]) (vs := [.string ⟨#[109, 97, 107, 101]⟩, .slice (some ⟨b189, 0, none⟩) 2 2, .bool true]) rfl ⟨rfl, rfl, rfl, trivial⟩ ?_)
   rw [show wordOf x.kd x.ek = ⟨#[109, 97, 107, 101]⟩ from by simp [wordOf, h184]]
   have S194 : St _ _ _ [_] := S191.dels [4, 3, 2, 1]; clear S191
   rw [show formL x.kd x.ek = some [(2, 3), (1, 4)] from by simp [formL, h184]]
   exact ⟨_, rfl, St.blkRdo (n := 2) (xs := ([(2, 3), (1, 4)] : List (Nat × Int)).flatMap (slotCells g)) 0 S194 rfl rfl rfl⟩
  ·refine vv (yeqlF h184) ?_
   refine va ?_
   refine qk [0, 2, 3, 4, 6, 5, 7, 24, 25] ?_
   refine x_tnsr ?_
   by_cases h195 : x.kd = 10
   ·refine vv (yeqlT h195) ?_
    refine va ?_
    refine qk [0, 2, 3, 4, 6, 5, 7, 24, 30] ?_
    refine wQ_then (wC_cond_t rfl (wC_seq ?_))
    have S196 := S183.drew; clear S183
    refine wC_any_ (C := fun w' => St w.heap.size w w' [.blk b179 #[.pointer (some ⟨g, 3, none⟩), .int .i64 1048576] 150, .blk b172 #[.pointer (some ⟨g, 1, none⟩), .int .i64 4] 150, .blk b169 #[.pointer (some ⟨g, 2, none⟩), .int .i64 3] 150, .rd 11 (some ⟨g, 0, none⟩) 1 x.cells]) (n := 6) (listed := #[false, false, false, false, false, false]) mixed rfl rfl ?_
    refine ak (v := .agg #[.pointer (some ⟨g, 2, none⟩), .int .i64 3]) 0 rfl S196 (fun _ Sx197 => ylr 2 Sx197 Try.underlying150 inf150) ?_
    refine ak (v := .agg #[.pointer (some ⟨g, 1, none⟩), .int .i64 4]) 1 rfl S196 (fun _ Sx198 => ylr 1 Sx198 Try.underlying150 inf150) ?_
    refine ak (v := .string ⟨#[109, 111, 118, 101]⟩) 3 rfl S196 (fun _ _ => ya) ?_
    refine aq1 2 ?_
    refine wN_new (i := 2) rfl rfl (V := fun b => .slice (some ⟨b, 0, none⟩) 2 2) (row := #[.pointer (some ⟨g, 2, none⟩), .int .i64 3, .pointer (some ⟨g, 1, none⟩), .int .i64 4]) (t := 150) S196 (wn rfl) rfl rfl (d_buildSlice (vs := [(0, .agg #[.pointer (some ⟨g, 2, none⟩), .int .i64 3]), (1, .agg #[.pointer (some ⟨g, 1, none⟩), .int .i64 4])]) rfl ⟨rfl, rfl, rfl, rfl, trivial⟩ (by kernel_rfl)) ?_; intro b200 w201 S202; clear S196
    refine ⟨(St.del 0 S202), ?_⟩
    refine ak (v := .slice (some ⟨b200, 0, none⟩) 2 2) 4 rfl (St.del 0 S202) (fun _ _ => ya) ?_
    refine ak (v := .bool true) 5 rfl (St.del 0 S202) (fun _ _ => ya) ?_
    refine wA_done (by kernel_rfl) ?_
    refine pk [2, 3, 4] ?_
    refine x_tech (wQ_post (rs := [.tmp 2, .tmp 3, .tmp 4]) (vs := [.string ⟨#[109, 111, 118, 101]⟩, .slice (some ⟨b200, 0, none⟩) 2 2, .bool true]) rfl ⟨rfl, rfl, rfl, trivial⟩ ?_)
    rw [show wordOf x.kd x.ek = ⟨#[109, 111, 118, 101]⟩ from by simp [wordOf, h184, h195]]
    have S205 : St _ _ _ [_] := S202.dels [4, 3, 2, 1]; clear S202
    rw [show formL x.kd x.ek = some [(2, 3), (1, 4)] from by simp [formL, h184, h195]]
    exact ⟨_, rfl, St.blkRdo (n := 2) (xs := ([(2, 3), (1, 4)] : List (Nat × Int)).flatMap (slotCells g)) 0 S205 rfl rfl rfl⟩
   ·refine vv (yeqlF h195) ?_
    refine va ?_
    refine qk [0, 2, 3, 4, 6, 5, 7, 24, 30] ?_
    refine x_tnsr ?_
    by_cases h206 : x.kd = 3
    ·refine vv (yeqlT h206) ?_
     refine va ?_
     refine qk [0, 2, 3, 4, 6, 5, 7, 24, 35] ?_
     refine wQ_then (wC_cond_t rfl (wC_seq ?_))
     have S207 := S183.drew; clear S183
     refine wC_any_ (C := fun w' => St w.heap.size w w' [.blk b179 #[.pointer (some ⟨g, 3, none⟩), .int .i64 1048576] 150, .blk b172 #[.pointer (some ⟨g, 1, none⟩), .int .i64 4] 150, .blk b169 #[.pointer (some ⟨g, 2, none⟩), .int .i64 3] 150, .rd 11 (some ⟨g, 0, none⟩) 1 x.cells]) (n := 5) (listed := #[false, false, false, false, false]) mixed rfl rfl ?_
     refine ak (v := .agg #[.pointer (some ⟨g, 1, none⟩), .int .i64 4]) 0 rfl S207 (fun _ Sx208 => ylr 1 Sx208 Try.underlying150 inf150) ?_
     refine ak (v := .string ⟨#[115, 116, 101, 112]⟩) 2 rfl S207 (fun _ _ => ya) ?_
     refine aq1 1 ?_
     refine wN_new (i := 1) rfl rfl (V := fun b => .slice (some ⟨b, 0, none⟩) 1 1) (row := #[.pointer (some ⟨g, 1, none⟩), .int .i64 4]) (t := 150) S207 (wn rfl) rfl rfl (d_buildSlice (vs := [(0, .agg #[.pointer (some ⟨g, 1, none⟩), .int .i64 4])]) rfl ⟨rfl, rfl, trivial⟩ (by kernel_rfl)) ?_; intro b210 w211 S212; clear S207
     refine ⟨(St.del 0 S212), ?_⟩
     refine ak (v := .slice (some ⟨b210, 0, none⟩) 1 1) 3 rfl (St.del 0 S212) (fun _ _ => ya) ?_
     refine ak (v := .bool true) 4 rfl (St.del 0 S212) (fun _ _ => ya) ?_
     refine wA_done (by kernel_rfl) ?_
     refine pk [2, 3, 4] ?_
     refine x_tech (wQ_post (rs := [.tmp 2, .tmp 3, .tmp 4]) (vs := [.string ⟨#[115, 116, 101, 112]⟩, .slice (some ⟨b210, 0, none⟩) 1 1, .bool true]) rfl ⟨rfl, rfl, rfl, trivial⟩ ?_)
     rw [show wordOf x.kd x.ek = ⟨#[115, 116, 101, 112]⟩ from by simp [wordOf, h184, h195, h206]]
     have S215 : St _ _ _ [_] := S212.dels [4, 3, 2, 1]; clear S212
     rw [show formL x.kd x.ek = some [(1, 4)] from by simp [formL, h184, h195, h206]]
     exact ⟨_, rfl, St.blkRdo (n := 1) (xs := ([(1, 4)] : List (Nat × Int)).flatMap (slotCells g)) 0 S215 rfl rfl rfl⟩
    ·refine vv (yeqlF h206) ?_
     refine va ?_
     refine qk [0, 2, 3, 4, 6, 5, 7, 24, 35] ?_
     refine x_tnsr ?_
     by_cases h216 : x.kd = 9
     ·refine vv (yeqlT h216) ?_
      refine va ?_
      refine qk [0, 2, 3, 4, 6, 5, 7, 24, 39] ?_
      refine wQ_then (wC_cond_t rfl (wC_seq ?_))
      have S217 := S183.drew; clear S183
      refine wC_any_ (C := fun w' => St w.heap.size w w' [.blk b179 #[.pointer (some ⟨g, 3, none⟩), .int .i64 1048576] 150, .blk b172 #[.pointer (some ⟨g, 1, none⟩), .int .i64 4] 150, .blk b169 #[.pointer (some ⟨g, 2, none⟩), .int .i64 3] 150, .rd 11 (some ⟨g, 0, none⟩) 1 x.cells]) (n := 5) (listed := #[false, false, false, false, false]) mixed rfl rfl ?_
      refine ak (v := .agg #[.pointer (some ⟨g, 1, none⟩), .int .i64 4]) 0 rfl S217 (fun _ Sx218 => ylr 1 Sx218 Try.underlying150 inf150) ?_
      refine ak (v := .string ⟨#[115, 116, 97, 114, 116]⟩) 2 rfl S217 (fun _ _ => ya) ?_
      refine aq1 1 ?_
      refine wN_new (i := 1) rfl rfl (V := fun b => .slice (some ⟨b, 0, none⟩) 1 1) (row := #[.pointer (some ⟨g, 1, none⟩), .int .i64 4]) (t := 150) S217 (wn rfl) rfl rfl (d_buildSlice (vs := [(0, .agg #[.pointer (some ⟨g, 1, none⟩), .int .i64 4])]) rfl ⟨rfl, rfl, trivial⟩ (by kernel_rfl)) ?_; intro b220 w221 S222; clear S217
      refine ⟨(St.del 0 S222), ?_⟩
      refine ak (v := .slice (some ⟨b220, 0, none⟩) 1 1) 3 rfl (St.del 0 S222) (fun _ _ => ya) ?_
      refine ak (v := .bool true) 4 rfl (St.del 0 S222) (fun _ _ => ya) ?_
      refine wA_done (by kernel_rfl) ?_
      refine pk [2, 3, 4] ?_
      refine x_tech (wQ_post (rs := [.tmp 2, .tmp 3, .tmp 4]) (vs := [.string ⟨#[115, 116, 97, 114, 116]⟩, .slice (some ⟨b220, 0, none⟩) 1 1, .bool true]) rfl ⟨rfl, rfl, rfl, trivial⟩ ?_)
      rw [show wordOf x.kd x.ek = ⟨#[115, 116, 97, 114, 116]⟩ from by simp [wordOf, h184, h195, h206, h216]]
      have S225 : St _ _ _ [_] := S222.dels [4, 3, 2, 1]; clear S222
      rw [show formL x.kd x.ek = some [(1, 4)] from by simp [formL, h184, h195, h206, h216]]
      exact ⟨_, rfl, St.blkRdo (n := 1) (xs := ([(1, 4)] : List (Nat × Int)).flatMap (slotCells g)) 0 S225 rfl rfl rfl⟩
     ·refine vv (yeqlF h216) ?_
      refine va ?_
      refine qk [0, 2, 3, 4, 6, 5, 7, 24, 39] ?_
      refine x_tnsr ?_
      by_cases h226 : x.kd = 8
      ·refine vv (yeqlT h226) ?_
       refine va ?_
       refine qk [0, 2, 3, 4, 6, 5, 7, 24, 43] ?_
       refine wQ_then (wC_cond_t rfl (wC_seq ?_))
       have S227 := S183.drew; clear S183
       refine wC_any_ (C := fun w' => St w.heap.size w w' [.blk b179 #[.pointer (some ⟨g, 3, none⟩), .int .i64 1048576] 150, .blk b172 #[.pointer (some ⟨g, 1, none⟩), .int .i64 4] 150, .blk b169 #[.pointer (some ⟨g, 2, none⟩), .int .i64 3] 150, .rd 11 (some ⟨g, 0, none⟩) 1 x.cells]) (n := 9) (listed := #[false, false, false, false, false, false, false, false, false]) mixed rfl rfl ?_
       refine ak (v := .agg #[.pointer (some ⟨g, 1, none⟩), .int .i64 4]) 0 rfl S227 (fun _ Sx228 => ylr 1 Sx228 Try.underlying150 inf150) ?_
       refine ak (v := .pointer (some ⟨g, 0, none⟩)) 1 rfl S227 (fun _ _ => ym) ?_
       refine ak (v := .pointer (some ⟨g, 0, none⟩)) 2 rfl S227 (fun _ _ => y_nil rfl rfl trivial) ?_
       refine ak (v := .pointer (some ⟨g, 4, none⟩)) 3 rfl S227 (fun _ _ => yfa _ fa39_4) ?_
       refine ak (v := .agg #[.pointer (some ⟨g, 4, none⟩), .int .i64 100000]) 4 rfl S227 (fun _ _ => (y_build (vs := [(0, .pointer (some ⟨g, 4, none⟩)), (1, .int .i64 100000)]) rfl ⟨rfl, rfl, rfl, rfl, trivial⟩ (by kernel_rfl))) ?_
       refine ak (v := .string ⟨#[99, 114, 97, 115, 104]⟩) 6 rfl S227 (fun _ _ => ya) ?_
       refine aq1 5 ?_
       refine wN_new (i := 5) rfl rfl (V := fun b => .slice (some ⟨b, 0, none⟩) 2 2) (row := #[.pointer (some ⟨g, 1, none⟩), .int .i64 4, .pointer (some ⟨g, 4, none⟩), .int .i64 100000]) (t := 150) S227 (wn rfl) rfl rfl (d_buildSlice (vs := [(0, .agg #[.pointer (some ⟨g, 1, none⟩), .int .i64 4]), (1, .agg #[.pointer (some ⟨g, 4, none⟩), .int .i64 100000])]) rfl ⟨rfl, rfl, rfl, rfl, trivial⟩ (by kernel_rfl)) ?_; intro b234 w235 S236; clear S227
       refine ⟨(St.del 0 S236), ?_⟩
       refine ak (v := .slice (some ⟨b234, 0, none⟩) 2 2) 7 rfl (St.del 0 S236) (fun _ _ => ya) ?_
       refine ak (v := .bool true) 8 rfl (St.del 0 S236) (fun _ _ => ya) ?_
       refine wA_done (by kernel_rfl) ?_
       refine pk [2, 3, 4] ?_
       refine x_tech (wQ_post (rs := [.tmp 2, .tmp 3, .tmp 4]) (vs := [.string ⟨#[99, 114, 97, 115, 104]⟩, .slice (some ⟨b234, 0, none⟩) 2 2, .bool true]) rfl ⟨rfl, rfl, rfl, trivial⟩ ?_)
       rw [show wordOf x.kd x.ek = ⟨#[99, 114, 97, 115, 104]⟩ from by simp [wordOf, h184, h195, h206, h216, h226]]
       have S239 : St _ _ _ [_] := S236.dels [4, 3, 2, 1]; clear S236
       rw [show formL x.kd x.ek = some [(1, 4), (4, 100000)] from by simp [formL, h184, h195, h206, h216, h226]]
       exact ⟨_, rfl, St.blkRdo (n := 2) (xs := ([(1, 4), (4, 100000)] : List (Nat × Int)).flatMap (slotCells g)) 0 S239 rfl rfl rfl⟩
      ·refine vv (yeqlF h226) ?_
       refine va ?_
       refine qk [0, 2, 3, 4, 6, 5, 7, 24, 43] ?_
       refine x_tnsr ?_
       by_cases h240 : x.kd = 4
       ·refine vv (yeqlT h240) ?_
        refine va ?_
        refine qk [0, 2, 3, 4, 6, 5, 7, 24, 51] ?_
        refine wQ_then (wC_cond_t rfl (wC_seq ?_))
        have S241 := S183.drew; clear S183
        refine wC_any_ (C := fun w' => St w.heap.size w w' [.blk b179 #[.pointer (some ⟨g, 3, none⟩), .int .i64 1048576] 150, .blk b172 #[.pointer (some ⟨g, 1, none⟩), .int .i64 4] 150, .blk b169 #[.pointer (some ⟨g, 2, none⟩), .int .i64 3] 150, .rd 11 (some ⟨g, 0, none⟩) 1 x.cells]) (n := 5) (listed := #[false, false, false, false, false]) mixed rfl rfl ?_
        refine ak (v := .agg #[.pointer (some ⟨g, 3, none⟩), .int .i64 1048576]) 0 rfl S241 (fun _ Sx242 => ylr 0 Sx242 Try.underlying150 inf150) ?_
        refine ak (v := .string ⟨#[99, 97, 114, 114, 121]⟩) 2 rfl S241 (fun _ _ => ya) ?_
        refine aq1 1 ?_
        refine wN_new (i := 1) rfl rfl (V := fun b => .slice (some ⟨b, 0, none⟩) 1 1) (row := #[.pointer (some ⟨g, 3, none⟩), .int .i64 1048576]) (t := 150) S241 (wn rfl) rfl rfl (d_buildSlice (vs := [(0, .agg #[.pointer (some ⟨g, 3, none⟩), .int .i64 1048576])]) rfl ⟨rfl, rfl, trivial⟩ (by kernel_rfl)) ?_; intro b244 w245 S246; clear S241
        refine ⟨(St.del 0 S246), ?_⟩
        refine ak (v := .slice (some ⟨b244, 0, none⟩) 1 1) 3 rfl (St.del 0 S246) (fun _ _ => ya) ?_
        refine ak (v := .bool true) 4 rfl (St.del 0 S246) (fun _ _ => ya) ?_
        refine wA_done (by kernel_rfl) ?_
        refine pk [2, 3, 4] ?_
        refine x_tech (wQ_post (rs := [.tmp 2, .tmp 3, .tmp 4]) (vs := [.string ⟨#[99, 97, 114, 114, 121]⟩, .slice (some ⟨b244, 0, none⟩) 1 1, .bool true]) rfl ⟨rfl, rfl, rfl, trivial⟩ ?_)
        rw [show wordOf x.kd x.ek = ⟨#[99, 97, 114, 114, 121]⟩ from by simp [wordOf, h184, h195, h206, h216, h226, h240]]
        have S249 : St _ _ _ [_] := S246.dels [4, 3, 2, 1]; clear S246
        rw [show formL x.kd x.ek = some [(3, 1048576)] from by simp [formL, h184, h195, h206, h216, h226, h240]]
        exact ⟨_, rfl, St.blkRdo (n := 1) (xs := ([(3, 1048576)] : List (Nat × Int)).flatMap (slotCells g)) 0 S249 rfl rfl rfl⟩
       ·refine vv (yeqlF h240) ?_
        refine va ?_
        refine qk [0, 2, 3, 4, 6, 5, 7, 24, 51] ?_
        refine x_tnsr ?_
        by_cases h250 : x.kd = 5
        ·refine vv (yeqlT h250) ?_
         refine va ?_
         refine qk [0, 2, 3, 4, 6, 5, 7, 24, 55] ?_
         refine wQ_then (wC_cond_t rfl (wC_seq ?_))
         have S251 := S183.drew; clear S183
         refine wC_any_ (C := fun w' => St w.heap.size w w' [.blk b179 #[.pointer (some ⟨g, 3, none⟩), .int .i64 1048576] 150, .blk b172 #[.pointer (some ⟨g, 1, none⟩), .int .i64 4] 150, .blk b169 #[.pointer (some ⟨g, 2, none⟩), .int .i64 3] 150, .rd 11 (some ⟨g, 0, none⟩) 1 x.cells]) (n := 5) (listed := #[false, false, false, false, false]) mixed rfl rfl ?_
         refine ak (v := .agg #[.pointer (some ⟨g, 3, none⟩), .int .i64 1048576]) 0 rfl S251 (fun _ Sx252 => ylr 0 Sx252 Try.underlying150 inf150) ?_
         refine ak (v := .string ⟨#[108, 111, 115, 101]⟩) 2 rfl S251 (fun _ _ => ya) ?_
         refine aq1 1 ?_
         refine wN_new (i := 1) rfl rfl (V := fun b => .slice (some ⟨b, 0, none⟩) 1 1) (row := #[.pointer (some ⟨g, 3, none⟩), .int .i64 1048576]) (t := 150) S251 (wn rfl) rfl rfl (d_buildSlice (vs := [(0, .agg #[.pointer (some ⟨g, 3, none⟩), .int .i64 1048576])]) rfl ⟨rfl, rfl, trivial⟩ (by kernel_rfl)) ?_; intro b254 w255 S256; clear S251
         refine ⟨(St.del 0 S256), ?_⟩
         refine ak (v := .slice (some ⟨b254, 0, none⟩) 1 1) 3 rfl (St.del 0 S256) (fun _ _ => ya) ?_
         refine ak (v := .bool true) 4 rfl (St.del 0 S256) (fun _ _ => ya) ?_
         refine wA_done (by kernel_rfl) ?_
         refine pk [2, 3, 4] ?_
         refine x_tech (wQ_post (rs := [.tmp 2, .tmp 3, .tmp 4]) (vs := [.string ⟨#[108, 111, 115, 101]⟩, .slice (some ⟨b254, 0, none⟩) 1 1, .bool true]) rfl ⟨rfl, rfl, rfl, trivial⟩ ?_)
         rw [show wordOf x.kd x.ek = ⟨#[108, 111, 115, 101]⟩ from by simp [wordOf, h184, h195, h206, h216, h226, h240, h250]]
         have S259 : St _ _ _ [_] := S256.dels [4, 3, 2, 1]; clear S256
         rw [show formL x.kd x.ek = some [(3, 1048576)] from by simp [formL, h184, h195, h206, h216, h226, h240, h250]]
         exact ⟨_, rfl, St.blkRdo (n := 1) (xs := ([(3, 1048576)] : List (Nat × Int)).flatMap (slotCells g)) 0 S259 rfl rfl rfl⟩
        ·refine vv (yeqlF h250) ?_
         refine va ?_
         refine qk [0, 2, 3, 4, 6, 5, 7, 24, 55] ?_
         refine x_tnsr ?_
         by_cases h260 : x.kd = 6
         ·refine vv (yeqlT h260) ?_
          refine va ?_
          refine qk [0, 2, 3, 4, 6, 5, 7, 24, 59] ?_
          refine wQ_then (wC_cond_t rfl (wC_seq ?_))
          have S261 := S183.drew; clear S183
          refine wC_any_ (C := fun w' => St w.heap.size w w' [.blk b179 #[.pointer (some ⟨g, 3, none⟩), .int .i64 1048576] 150, .blk b172 #[.pointer (some ⟨g, 1, none⟩), .int .i64 4] 150, .blk b169 #[.pointer (some ⟨g, 2, none⟩), .int .i64 3] 150, .rd 11 (some ⟨g, 0, none⟩) 1 x.cells]) (n := 5) (listed := #[false, false, false, false, false]) mixed rfl rfl ?_
          refine ak (v := .agg #[.pointer (some ⟨g, 3, none⟩), .int .i64 1048576]) 0 rfl S261 (fun _ Sx262 => ylr 0 Sx262 Try.underlying150 inf150) ?_
          refine ak (v := .string ⟨#[100, 111, 117, 98, 108, 101]⟩) 2 rfl S261 (fun _ _ => ya) ?_
          refine aq1 1 ?_
          refine wN_new (i := 1) rfl rfl (V := fun b => .slice (some ⟨b, 0, none⟩) 1 1) (row := #[.pointer (some ⟨g, 3, none⟩), .int .i64 1048576]) (t := 150) S261 (wn rfl) rfl rfl (d_buildSlice (vs := [(0, .agg #[.pointer (some ⟨g, 3, none⟩), .int .i64 1048576])]) rfl ⟨rfl, rfl, trivial⟩ (by kernel_rfl)) ?_; intro b264 w265 S266; clear S261
          refine ⟨(St.del 0 S266), ?_⟩
          refine ak (v := .slice (some ⟨b264, 0, none⟩) 1 1) 3 rfl (St.del 0 S266) (fun _ _ => ya) ?_
          refine ak (v := .bool true) 4 rfl (St.del 0 S266) (fun _ _ => ya) ?_
          refine wA_done (by kernel_rfl) ?_
          refine pk [2, 3, 4] ?_
          refine x_tech (wQ_post (rs := [.tmp 2, .tmp 3, .tmp 4]) (vs := [.string ⟨#[100, 111, 117, 98, 108, 101]⟩, .slice (some ⟨b264, 0, none⟩) 1 1, .bool true]) rfl ⟨rfl, rfl, rfl, trivial⟩ ?_)
          rw [show wordOf x.kd x.ek = ⟨#[100, 111, 117, 98, 108, 101]⟩ from by simp [wordOf, h184, h195, h206, h216, h226, h240, h250, h260]]
          have S269 : St _ _ _ [_] := S266.dels [4, 3, 2, 1]; clear S266
          rw [show formL x.kd x.ek = some [(3, 1048576)] from by simp [formL, h184, h195, h206, h216, h226, h240, h250, h260]]
          exact ⟨_, rfl, St.blkRdo (n := 1) (xs := ([(3, 1048576)] : List (Nat × Int)).flatMap (slotCells g)) 0 S269 rfl rfl rfl⟩
         ·refine vv (yeqlF h260) ?_
          refine va ?_
          refine qk [0, 2, 3, 4, 6, 5, 7, 24, 59] ?_
          refine x_tnsr ?_
          by_cases h270 : x.kd = 7
          ·refine vv (yeqlT h270) ?_
           refine va ?_
           refine qk [0, 2, 3, 4, 6, 5, 24, 63] ?_
           refine x_tysr (va ?_)
           iterate 2 refine va ?_
           refine qk [2, 3, 4] ?_
           refine x_tech (wQ_post (rs := [.tmp 2, .tmp 3, .tmp 4]) (vs := [.string ⟨#[97, 108, 108]⟩, .slice none 0 0, .bool true]) rfl ⟨rfl, rfl, rfl, trivial⟩ ?_)
           rw [show wordOf x.kd x.ek = ⟨#[97, 108, 108]⟩ from by simp [wordOf, h184, h195, h206, h216, h226, h240, h250, h260, h270]]
           have S271 : St _ _ _ [] := S183.dels [3, 2, 1, 0]; clear S183
           rw [show formL x.kd x.ek = some [] from by simp [formL, h184, h195, h206, h216, h226, h240, h250, h260, h270]]
           exact ⟨none, rfl, rdo_nil S271⟩
          ·refine vv (yeqlF h270) ?_
           refine va ?_
           refine qk [0, 2, 3, 4, 6, 5, 24, 63] ?_
           refine x_tnsr ?_
           by_cases h272 : x.kd = 2
           ·refine vv (yeqlT h272) ?_
            refine va ?_
            refine qk [0, 2, 3, 4, 6, 5, 65] ?_
            refine x_tysr (vm ?_)
            refine vv (y_nil rfl rfl trivial) ?_
            refine vv (yfa 5 fa39_5) ?_
            refine va ?_
            refine qk [2, 3, 4, 6, 5, 8] ?_
            refine x_tsr (vm ?_)
            refine vv (y_nil rfl rfl trivial) ?_
            refine vv (yfa 5 fa37_0) ?_
            refine vv (v := .int .i64 x.ek) (y_load rfl rfl (r_load Try.underlying3 rfl (Rd.cl (j := 5) (St.rd 3 S183 rfl) rfl))) ?_
            refine qk [2, 3, 4, 6, 5, 8, 73] ?_
            refine x_tbsr ?_
            by_cases h273 : x.ek = 1
            ·refine vv (yeqlT h273) ?_
             refine va ?_
             refine qk [2, 3, 4, 6, 5, 8, 73, 74] ?_
             refine wQ_then (wC_cond_t rfl (wC_seq ?_))
             have S274 := S183.drew; clear S183
             refine wC_any_ (C := fun w' => St w.heap.size w w' [.blk b179 #[.pointer (some ⟨g, 3, none⟩), .int .i64 1048576] 150, .blk b172 #[.pointer (some ⟨g, 1, none⟩), .int .i64 4] 150, .blk b169 #[.pointer (some ⟨g, 2, none⟩), .int .i64 3] 150, .rd 11 (some ⟨g, 0, none⟩) 1 x.cells]) (n := 18) (listed := #[false, false, false, false, false, false, false, false, false, false, false, false, false, false, false, false, false, false]) mixed rfl rfl ?_
             refine ak (v := .agg #[.pointer (some ⟨g, 1, none⟩), .int .i64 4]) 0 rfl S274 (fun _ Sx275 => ylr 1 Sx275 Try.underlying150 inf150) ?_
             refine ak (v := .agg #[.pointer (some ⟨g, 2, none⟩), .int .i64 3]) 1 rfl S274 (fun _ Sx276 => ylr 2 Sx276 Try.underlying150 inf150) ?_
             refine ak (v := .pointer (some ⟨g, 5, none⟩)) 2 rfl S274 (fun _ _ => ym) ?_
             refine ak (v := .pointer (some ⟨g, 5, none⟩)) 3 rfl S274 (fun _ _ => y_nil rfl rfl trivial) ?_
             refine ak (v := .pointer (some ⟨g, 6, none⟩)) 4 rfl S274 (fun _ _ => yfa _ fa37_1) ?_
             refine ak (v := .agg #[.pointer (some ⟨g, 6, none⟩), .int .i64 3]) 5 rfl S274 (fun _ _ => (y_build (vs := [(0, .pointer (some ⟨g, 6, none⟩)), (1, .int .i64 3)]) rfl ⟨rfl, rfl, rfl, rfl, trivial⟩ (by kernel_rfl))) ?_
             refine ak (v := .pointer (some ⟨g, 5, none⟩)) 6 rfl S274 (fun _ _ => ym) ?_
             refine ak (v := .pointer (some ⟨g, 5, none⟩)) 7 rfl S274 (fun _ _ => y_nil rfl rfl trivial) ?_
             refine ak (v := .pointer (some ⟨g, 7, none⟩)) 8 rfl S274 (fun _ _ => yfa _ fa37_2) ?_
             refine ak (v := .agg #[.pointer (some ⟨g, 7, none⟩), .int .i64 1073741824]) 9 rfl S274 (fun _ _ => (y_build (vs := [(0, .pointer (some ⟨g, 7, none⟩)), (1, .int .i64 1073741824)]) rfl ⟨rfl, rfl, rfl, rfl, trivial⟩ (by kernel_rfl))) ?_
             refine ak (v := .pointer (some ⟨g, 5, none⟩)) 10 rfl S274 (fun _ _ => ym) ?_
             refine ak (v := .pointer (some ⟨g, 5, none⟩)) 11 rfl S274 (fun _ _ => y_nil rfl rfl trivial) ?_
             refine ak (v := .pointer (some ⟨g, 8, none⟩)) 12 rfl S274 (fun _ _ => yfa _ fa37_3) ?_
             refine ak (v := .agg #[.pointer (some ⟨g, 8, none⟩), .int .i64 1000000]) 13 rfl S274 (fun _ _ => (y_build (vs := [(0, .pointer (some ⟨g, 8, none⟩)), (1, .int .i64 1000000)]) rfl ⟨rfl, rfl, rfl, rfl, trivial⟩ (by kernel_rfl))) ?_
             refine ak (v := .string ⟨#[112, 117, 98, 108, 105, 115, 104]⟩) 15 rfl S274 (fun _ _ => ya) ?_
             refine aq1 14 ?_
             refine wN_new (i := 14) rfl rfl (V := fun b => .slice (some ⟨b, 0, none⟩) 5 5) (row := #[.pointer (some ⟨g, 1, none⟩), .int .i64 4, .pointer (some ⟨g, 2, none⟩), .int .i64 3, .pointer (some ⟨g, 6, none⟩), .int .i64 3, .pointer (some ⟨g, 7, none⟩), .int .i64 1073741824, .pointer (some ⟨g, 8, none⟩), .int .i64 1000000]) (t := 150) S274 (wn rfl) rfl rfl (d_buildSlice (vs := [(0, .agg #[.pointer (some ⟨g, 1, none⟩), .int .i64 4]), (1, .agg #[.pointer (some ⟨g, 2, none⟩), .int .i64 3]), (2, .agg #[.pointer (some ⟨g, 6, none⟩), .int .i64 3]), (3, .agg #[.pointer (some ⟨g, 7, none⟩), .int .i64 1073741824]), (4, .agg #[.pointer (some ⟨g, 8, none⟩), .int .i64 1000000])]) rfl ⟨rfl, rfl, rfl, rfl, rfl, rfl, rfl, rfl, rfl, rfl, trivial⟩ (by kernel_rfl)) ?_; intro b290 w291 S292; clear S274
             refine ⟨(St.del 0 S292), ?_⟩
             refine ak (v := .slice (some ⟨b290, 0, none⟩) 5 5) 16 rfl (St.del 0 S292) (fun _ _ => ya) ?_
             refine ak (v := .bool true) 17 rfl (St.del 0 S292) (fun _ _ => ya) ?_
             refine wA_done (by kernel_rfl) ?_
             refine pk [2, 3, 4] ?_
             refine wQ_then (wC_ret (wQ_blk_ret (wQ_blk_ret (wQ_then_ret (wQ_post (rs := [.tmp 2, .tmp 3, .tmp 4]) (vs := [.string ⟨#[112, 117, 98, 108, 105, 115, 104]⟩, .slice (some ⟨b290, 0, none⟩) 5 5, .bool true]) rfl ⟨rfl, rfl, rfl, trivial⟩ ?_)))))
             rw [show wordOf x.kd x.ek = ⟨#[112, 117, 98, 108, 105, 115, 104]⟩ from by simp [wordOf, h184, h195, h206, h216, h226, h240, h250, h260, h270, h272, h273]]
             have S295 : St _ _ _ [_] := S292.dels [4, 3, 2, 1]; clear S292
             rw [show formL x.kd x.ek = some [(1, 4), (2, 3), (6, 3), (7, 1073741824), (8, 1000000)] from by simp [formL, h184, h195, h206, h216, h226, h240, h250, h260, h270, h272, h273]]
             exact ⟨_, rfl, St.blkRdo (n := 5) (xs := ([(1, 4), (2, 3), (6, 3), (7, 1073741824), (8, 1000000)] : List (Nat × Int)).flatMap (slotCells g)) 0 S295 rfl rfl rfl⟩
            ·refine vv (yeqlF h273) ?_
             refine va ?_
             refine qk [2, 3, 4, 6, 5, 8, 73, 74] ?_
             refine x_tnsr ?_
             by_cases h296 : x.ek = 2
             ·refine vv (yeqlT h296) ?_
              refine va ?_
              refine qk [2, 3, 4, 6, 5, 8, 73, 91] ?_
              refine wQ_then (wC_cond_t rfl (wC_seq ?_))
              have S297 := S183.drew; clear S183
              refine wC_any_ (C := fun w' => St w.heap.size w w' [.blk b179 #[.pointer (some ⟨g, 3, none⟩), .int .i64 1048576] 150, .blk b172 #[.pointer (some ⟨g, 1, none⟩), .int .i64 4] 150, .blk b169 #[.pointer (some ⟨g, 2, none⟩), .int .i64 3] 150, .rd 11 (some ⟨g, 0, none⟩) 1 x.cells]) (n := 6) (listed := #[false, false, false, false, false, false]) mixed rfl rfl ?_
              refine ak (v := .agg #[.pointer (some ⟨g, 1, none⟩), .int .i64 4]) 0 rfl S297 (fun _ Sx298 => ylr 1 Sx298 Try.underlying150 inf150) ?_
              refine ak (v := .agg #[.pointer (some ⟨g, 2, none⟩), .int .i64 3]) 1 rfl S297 (fun _ Sx299 => ylr 2 Sx299 Try.underlying150 inf150) ?_
              refine ak (v := .string ⟨#[114, 101, 99, 101, 105, 118, 101]⟩) 3 rfl S297 (fun _ _ => ya) ?_
              refine aq1 2 ?_
              refine wN_new (i := 2) rfl rfl (V := fun b => .slice (some ⟨b, 0, none⟩) 2 2) (row := #[.pointer (some ⟨g, 1, none⟩), .int .i64 4, .pointer (some ⟨g, 2, none⟩), .int .i64 3]) (t := 150) S297 (wn rfl) rfl rfl (d_buildSlice (vs := [(0, .agg #[.pointer (some ⟨g, 1, none⟩), .int .i64 4]), (1, .agg #[.pointer (some ⟨g, 2, none⟩), .int .i64 3])]) rfl ⟨rfl, rfl, rfl, rfl, trivial⟩ (by kernel_rfl)) ?_; intro b301 w302 S303; clear S297
              refine ⟨(St.del 0 S303), ?_⟩
              refine ak (v := .slice (some ⟨b301, 0, none⟩) 2 2) 4 rfl (St.del 0 S303) (fun _ _ => ya) ?_
              refine ak (v := .bool true) 5 rfl (St.del 0 S303) (fun _ _ => ya) ?_
              refine wA_done (by kernel_rfl) ?_
              refine pk [2, 3, 4] ?_
              refine wQ_then (wC_ret (wQ_blk_ret (wQ_blk_ret (wQ_then_ret (wQ_post (rs := [.tmp 2, .tmp 3, .tmp 4]) (vs := [.string ⟨#[114, 101, 99, 101, 105, 118, 101]⟩, .slice (some ⟨b301, 0, none⟩) 2 2, .bool true]) rfl ⟨rfl, rfl, rfl, trivial⟩ ?_)))))
              rw [show wordOf x.kd x.ek = ⟨#[114, 101, 99, 101, 105, 118, 101]⟩ from by simp [wordOf, h184, h195, h206, h216, h226, h240, h250, h260, h270, h272, h273, h296]]
              have S306 : St _ _ _ [_] := S303.dels [4, 3, 2, 1]; clear S303
              rw [show formL x.kd x.ek = some [(1, 4), (2, 3)] from by simp [formL, h184, h195, h206, h216, h226, h240, h250, h260, h270, h272, h273, h296]]
              exact ⟨_, rfl, St.blkRdo (n := 2) (xs := ([(1, 4), (2, 3)] : List (Nat × Int)).flatMap (slotCells g)) 0 S306 rfl rfl rfl⟩
             ·refine vv (yeqlF h296) ?_
              refine va ?_
              refine qk [2, 3, 4, 6, 5, 8, 73, 91] ?_
              refine x_tnsr ?_
              by_cases h307 : x.ek = 3
              ·refine vv (yeqlT h307) ?_
               refine va ?_
               refine qk [2, 3, 4, 6, 5, 8, 96] ?_
               refine wQ_then (wC_cond_t rfl (wC_seq ?_))
               have S308 := S183.drew; clear S183
               refine wC_any_ (C := fun w' => St w.heap.size w w' [.blk b179 #[.pointer (some ⟨g, 3, none⟩), .int .i64 1048576] 150, .blk b172 #[.pointer (some ⟨g, 1, none⟩), .int .i64 4] 150, .blk b169 #[.pointer (some ⟨g, 2, none⟩), .int .i64 3] 150, .rd 11 (some ⟨g, 0, none⟩) 1 x.cells]) (n := 16) (listed := #[false, false, false, false, false, false, false, false, false, false, false, false, false, false, false, false]) mixed rfl rfl ?_
               refine ak (v := .agg #[.pointer (some ⟨g, 1, none⟩), .int .i64 4]) 0 rfl S308 (fun _ Sx309 => ylr 1 Sx309 Try.underlying150 inf150) ?_
               refine ak (v := .agg #[.pointer (some ⟨g, 2, none⟩), .int .i64 3]) 1 rfl S308 (fun _ Sx310 => ylr 2 Sx310 Try.underlying150 inf150) ?_
               refine ak (v := .pointer (some ⟨g, 5, none⟩)) 2 rfl S308 (fun _ _ => ym) ?_
               refine ak (v := .pointer (some ⟨g, 5, none⟩)) 3 rfl S308 (fun _ _ => y_nil rfl rfl trivial) ?_
               refine ak (v := .pointer (some ⟨g, 9, none⟩)) 4 rfl S308 (fun _ _ => yfa _ fa37_4) ?_
               refine ak (v := .pointer (some ⟨g, 9, none⟩)) 5 rfl S308 (fun _ _ => yfa _ fa35_0) ?_
               refine ak (v := .agg #[.pointer (some ⟨g, 9, none⟩), .int .i64 1048576]) 6 rfl S308 (fun _ _ => (y_build (vs := [(0, .pointer (some ⟨g, 9, none⟩)), (1, .int .i64 1048576)]) rfl ⟨rfl, rfl, rfl, rfl, trivial⟩ (by kernel_rfl))) ?_
               refine ak (v := .pointer (some ⟨g, 5, none⟩)) 7 rfl S308 (fun _ _ => ym) ?_
               refine ak (v := .pointer (some ⟨g, 5, none⟩)) 8 rfl S308 (fun _ _ => y_nil rfl rfl trivial) ?_
               refine ak (v := .pointer (some ⟨g, 9, none⟩)) 9 rfl S308 (fun _ _ => yfa _ fa37_4) ?_
               refine ak (v := .pointer (some ⟨g, 10, none⟩)) 10 rfl S308 (fun _ _ => yfa _ fa35_1) ?_
               refine ak (v := .agg #[.pointer (some ⟨g, 10, none⟩), .int .i64 1073741824]) 11 rfl S308 (fun _ _ => (y_build (vs := [(0, .pointer (some ⟨g, 10, none⟩)), (1, .int .i64 1073741824)]) rfl ⟨rfl, rfl, rfl, rfl, trivial⟩ (by kernel_rfl))) ?_
               refine ak (v := .string ⟨#[97, 99, 107]⟩) 13 rfl S308 (fun _ _ => ya) ?_
               refine aq1 12 ?_
               refine wN_new (i := 12) rfl rfl (V := fun b => .slice (some ⟨b, 0, none⟩) 4 4) (row := #[.pointer (some ⟨g, 1, none⟩), .int .i64 4, .pointer (some ⟨g, 2, none⟩), .int .i64 3, .pointer (some ⟨g, 9, none⟩), .int .i64 1048576, .pointer (some ⟨g, 10, none⟩), .int .i64 1073741824]) (t := 150) S308 (wn rfl) rfl rfl (d_buildSlice (vs := [(0, .agg #[.pointer (some ⟨g, 1, none⟩), .int .i64 4]), (1, .agg #[.pointer (some ⟨g, 2, none⟩), .int .i64 3]), (2, .agg #[.pointer (some ⟨g, 9, none⟩), .int .i64 1048576]), (3, .agg #[.pointer (some ⟨g, 10, none⟩), .int .i64 1073741824])]) rfl ⟨rfl, rfl, rfl, rfl, rfl, rfl, rfl, rfl, trivial⟩ (by kernel_rfl)) ?_; intro b322 w323 S324; clear S308
               refine ⟨(St.del 0 S324), ?_⟩
               refine ak (v := .slice (some ⟨b322, 0, none⟩) 4 4) 14 rfl (St.del 0 S324) (fun _ _ => ya) ?_
               refine ak (v := .bool true) 15 rfl (St.del 0 S324) (fun _ _ => ya) ?_
               refine wA_done (by kernel_rfl) ?_
               refine pk [2, 3, 4] ?_
               refine wQ_then (wC_ret (wQ_blk_ret (wQ_blk_ret (wQ_then_ret (wQ_post (rs := [.tmp 2, .tmp 3, .tmp 4]) (vs := [.string ⟨#[97, 99, 107]⟩, .slice (some ⟨b322, 0, none⟩) 4 4, .bool true]) rfl ⟨rfl, rfl, rfl, trivial⟩ ?_)))))
               rw [show wordOf x.kd x.ek = ⟨#[97, 99, 107]⟩ from by simp [wordOf, h184, h195, h206, h216, h226, h240, h250, h260, h270, h272, h273, h296, h307]]
               have S327 : St _ _ _ [_] := S324.dels [4, 3, 2, 1]; clear S324
               rw [show formL x.kd x.ek = some [(1, 4), (2, 3), (9, 1048576), (10, 1073741824)] from by simp [formL, h184, h195, h206, h216, h226, h240, h250, h260, h270, h272, h273, h296, h307]]
               exact ⟨_, rfl, St.blkRdo (n := 4) (xs := ([(1, 4), (2, 3), (9, 1048576), (10, 1073741824)] : List (Nat × Int)).flatMap (slotCells g)) 0 S327 rfl rfl rfl⟩
              ·refine vv (yeqlF h307) ?_
               refine va ?_
               refine qk [2, 3, 4, 6, 5, 8, 96] ?_
               refine wQ_then (wC_cond_f rfl (wC_skip (wQ_blk_n (wQ_blk_n (wQ_then (wC_seq (wC_region (va ?_))))))))
               iterate 2 refine va ?_
               refine qk [2, 3, 4] ?_
               refine x_te (wQ_post (rs := [.tmp 2, .tmp 3, .tmp 4]) (vs := [.string ⟨#[]⟩, .slice none 0 0, .bool false]) rfl ⟨rfl, rfl, rfl, trivial⟩ ?_)
               rw [show wordOf x.kd x.ek = ⟨#[]⟩ from by simp [wordOf, h184, h195, h206, h216, h226, h240, h250, h260, h270, h272, h273, h296, h307]]
               rw [show formL x.kd x.ek = none from by simp [formL, h184, h195, h206, h216, h226, h240, h250, h260, h270, h272, h273, h296, h307]]
               exact ⟨rfl, S183.low⟩
           ·refine vv (yeqlF h272) ?_
            refine va ?_
            refine qk [0, 2, 3, 4, 6, 5, 65] ?_
            refine wQ_then (wC_cond_f rfl (wC_skip (wQ_blk_n (wQ_then (wC_seq (wC_region (va ?_)))))))
            iterate 2 refine va ?_
            refine qk [2, 3, 4] ?_
            refine x_te (wQ_post (rs := [.tmp 2, .tmp 3, .tmp 4]) (vs := [.string ⟨#[]⟩, .slice none 0 0, .bool false]) rfl ⟨rfl, rfl, rfl, trivial⟩ ?_)
            rw [show wordOf x.kd x.ek = ⟨#[]⟩ from by simp [wordOf, h184, h195, h206, h216, h226, h240, h250, h260, h270, h272]]
            rw [show formL x.kd x.ek = none from by simp [formL, h184, h195, h206, h216, h226, h240, h250, h260, h270, h272]]
            exact ⟨rfl, S183.low⟩
end Go.Proofs.Ytkjlafpafmihaaa

