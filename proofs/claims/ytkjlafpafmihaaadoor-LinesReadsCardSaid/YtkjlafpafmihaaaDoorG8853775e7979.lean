/- Parts of proofs: lemmas on memory, on single functions and on the plain models; no condition of their own. -/
import Derived.Test.YtkjlafpafmihaaaDoorRows
import Derived.WalkKit
import Derived.ProofKit
import Derived.OpenShut
import Derived.SizedLaws
import Derived.WalkSpells
import Derived.WalkLawsBesides
import Derived.Handy
import Derived.Deep.QuietTactic
import Derived.BigQuiet
import Derived.Lib.Hide
import Derived.Maps.AppendAt
import Derived.Deep.AppendLies
import Derived.RegionTactic
import Derived.OwnWalk
import Derived.Laws.Tables
import Derived.Deep.MidRow
import Derived.StillTailTactics
import Derived.OrdersHeld
import Derived.Deep.RegionHeld3
import Derived.Laws.IdiomCopy
import Derived.ChangeKeysEq
import Derived.Laws.BitsAllLaws
import Derived.Scope
import Derived.Lib.AppendStr
import Derived.Lib.ItoaLen
import Derived.Lib.BufferRead
import Derived.Laws.IdiomStrings
import Derived.Lib.Builder
import Derived.Shelf.Strings.Builder1
import Derived.Shelf.LaysM
import Derived.Shelf.Strconv.Itoa3
import Derived.Lib.ItoaMem
import Derived.Lib.AppendIntMem
import Derived.Lib.QuietBelow
import Derived.Shelf.Strings.Search1
import Derived.Shelf.Small.Strs
import Derived.Shelf.Strings.Prefix
import Derived.Shelf.Strings.SplitShaped
import Derived.Shelf.Strconv.AtoiAll
import Derived.Shelf.LaysC
import Derived.Lib.SplitLaws
import Derived.Lib.AtoiAllCases
import Derived.Lib.IndexLaws
import Derived.Test.YtkjlafpafmihaaaDoorG173045c9580a
import Derived.Test.YtkjlafpafmihaaaDoorG3606cc3ac865
import Derived.Test.YtkjlafpafmihaaaDoorG56c47c18b150
import Derived.Test.YtkjlafpafmihaaaDoorG97f8767f7743
import Derived.Test.YtkjlafpafmihaaaDoorGa487125d06f9
import Derived.Test.YtkjlafpafmihaaaDoorGa57fdb9d3cfe
import Derived.Test.YtkjlafpafmihaaaDoorGa6cfea583cdc
import Derived.Test.YtkjlafpafmihaaaDoorGab8ecdf11465
import Derived.Test.YtkjlafpafmihaaaDoorGd3cfdc1357eb
import Derived.Test.YtkjlafpafmihaaaDoorGea90f12dfe92
import Derived.Test.YtkjlafpafmihaaaDoorGedcf6e6df767
import Derived.Test.YtkjlafpafmihaaaDoorGfe753c0b6274
set_option linter.unusedVariables false
set_option linter.unusedSimpArgs false

namespace Go.Proofs.YtkjlafpafmihaaaDoor
open Go.ChangeShapes Go.WideShapes Go.RowKit
/-! ### Words -/
def wordsC : List UInt8 → List UInt8 → List (List UInt8)
  | cur, [] => [cur]
  | cur, c :: t => if c = 32 then cur :: wordsC [] t else wordsC (cur ++ [c]) t
theorem wordsC_app : ∀ (u cur r : List UInt8), (∀ c ∈ u, c ≠ 32) → wordsC cur (u ++ r) = wordsC (cur ++ u) r
  | [], cur, r, _ => by simp
  | c :: u, cur, r, h => by
    rw [List.cons_append, wordsC, if_neg (h c (List.mem_cons_self ..)), wordsC_app u _ r (fun d hd => h d (List.mem_cons_of_mem _ hd))]
    simp
theorem wordsC_ne : ∀ (t cur : List UInt8), wordsC cur t ≠ []
  | [], cur => by simp [wordsC]
  | c :: t, cur => by
    unfold wordsC
    split
    · simp
    · exact wordsC_ne t _
theorem idx_app (c : UInt8) : ∀ (u r : List UInt8), (∀ d ∈ u, d ≠ c) → Lib.indexByte (u ++ c :: r) c = (u.length : Int)
  | [], r, _ => by simp [Lib.indexByte]
  | d :: u, r, h => by
    have ih := idx_app c u r fun e he => h e (List.mem_cons_of_mem _ he)
    have hd : d ≠ c := h d (List.mem_cons_self ..)
    rw [List.cons_append, Lib.indexByte, ih, if_neg (by simpa using hd), if_neg (by simp)]
    simp
theorem cut_at {c : UInt8} {s : List UInt8} (h : c ∈ s) : ∃ u r, s = u ++ c :: r ∧ ∀ d ∈ u, d ≠ c := by
  induction s with
  | nil => cases h
  | cons d s ih =>
    by_cases e : d = c
    · subst e; exact ⟨[], s, rfl, fun _ h => by cases h⟩
    · obtain ⟨u, r, rfl, hu⟩ := ih ((List.mem_cons.1 h).resolve_left fun e2 => e e2.symm)
      refine ⟨d :: u, r, rfl, fun x hx => ?_⟩
      rcases List.mem_cons.1 hx with rfl | hx
      · exact e
      · exact hu x hx
theorem split_words : ∀ (k : Nat) (s : List UInt8), s.count 32 = k → Lib.splitK [32] 0 k s = wordsC [] s
  | 0, s, h => by
    have hs : ∀ c ∈ s, c ≠ 32 := fun c hc e => by subst e; exact absurd (List.count_eq_zero.1 h) (fun hn => hn hc)
    have := wordsC_app s [] [] hs
    rw [List.append_nil] at this
    rw [this]
    rfl
  | k + 1, s, h => by
    obtain ⟨u, r, rfl, hu⟩ := cut_at (show (32 : UInt8) ∈ s from List.count_pos_iff.1 (by omega))
    have hc : r.count 32 = k := by
      rw [List.count_append, List.count_cons_self, List.count_eq_zero.2 (fun hm => hu _ hm rfl)] at h
      omega
    rw [wordsC_app u [] _ hu, List.nil_append, wordsC, if_pos rfl, ← split_words k r hc, Lib.splitK, Lib.index_one, idx_app 32 u r hu, if_neg (by simp)]
    simp
/-- Words, a blank ahead of each but the first. -/
def glue (u : List UInt8) (ws : List (List UInt8)) : List UInt8 := u ++ ws.flatMap fun v => 32 :: v
theorem wordsC_glue : ∀ (ws : List (List UInt8)) (u : List UInt8), (∀ c ∈ u, c ≠ 32) → (∀ v ∈ ws, ∀ c ∈ v, c ≠ 32) → wordsC [] (glue u ws) = u :: ws
  | [], u, hu, _ => by
    have := wordsC_app u [] [] hu
    simpa [glue, wordsC] using this
  | v :: ws, u, hu, hws => by
    have ih := wordsC_glue ws v (hws v (List.mem_cons_self ..)) fun x hx => hws x (List.mem_cons_of_mem _ hx)
    have e : glue u (v :: ws) = u ++ 32 :: glue v ws := by simp [glue]
    rw [e, wordsC_app u [] _ hu, List.nil_append, wordsC, if_pos rfl, ih]
theorem glue_words : ∀ (t cur u : List UInt8) (ws : List (List UInt8)), wordsC cur t = u :: ws → cur ++ t = glue u ws
  | [], cur, u, ws, h => by
    simp only [wordsC, List.cons.injEq] at h
    obtain ⟨rfl, rfl⟩ := h
    simp [glue]
  | c :: t, cur, u, ws, h => by
    rw [wordsC] at h
    split at h
    · rename_i hc
      subst hc
      simp only [List.cons.injEq] at h
      obtain ⟨rfl, h⟩ := h
      rcases hw : wordsC [] t with _ | ⟨v, vs⟩
      · exact absurd hw (wordsC_ne t [])
      · have := glue_words t [] v vs hw
        rw [hw] at h
        subst h
        rw [List.nil_append] at this
        rw [this]
        simp [glue]
    · have := glue_words t _ u ws h
      simpa using this
/-! ### A number -/
def wgo : Int → List UInt8 → Int
  | n, [] => n
  | n, c :: s => if (c.toNat : Int) < 48 ∨ 57 < (c.toNat : Int) then -1 else wgo (10 * n + ((c.toNat : Int) - 48)) s
def wholeM (s : List UInt8) : Int := if s.length = 0 ∨ 10 < s.length ∨ (s.head? = some 48 ∧ 1 < s.length) then -1 else wgo 0 s
theorem wgo_ge : ∀ (s : List UInt8) (n : Int), 0 ≤ n → -1 ≤ wgo n s
  | [], n, h => by simp only [wgo]; omega
  | c :: s, n, h => by
    rw [wgo]
    split
    · exact Int.le_refl _
    · exact wgo_ge s _ (by omega)
theorem wgo_snoc : ∀ (u : List UInt8) (n : Int) (c : UInt8), 0 ≤ n → wgo n (u ++ [c]) = if wgo n u = -1 then -1 else if (c.toNat : Int) < 48 ∨ 57 < (c.toNat : Int) then -1 else 10 * wgo n u + ((c.toNat : Int) - 48)
  | [], n, c, h => by
    rw [List.nil_append, wgo, wgo, if_neg (by omega : ¬ n = -1)]
    rfl
  | d :: u, n, c, h => by
    rw [List.cons_append, wgo, wgo]
    by_cases hd : (d.toNat : Int) < 48 ∨ 57 < (d.toNat : Int)
    · rw [if_pos hd, if_pos hd, if_pos rfl]
    · rw [if_neg hd, if_neg hd]
      exact wgo_snoc u _ c (by omega)
theorem dec_big {n : Nat} (h : ¬ n < 10) : Lib.decDigits n = Lib.decDigits (n / 10) ++ [UInt8.ofNat (48 + n % 10)] := by
  conv => lhs; rw [Lib.decDigits, dif_neg h]
theorem dg_nat {k : Nat} (h : k < 10) : (UInt8.ofNat (48 + k)).toNat = 48 + k := by rw [UInt8.toNat_ofNat', Nat.mod_eq_of_lt (by omega)]
theorem dec_ne (n : Nat) : Lib.decDigits n ≠ [] := by
  by_cases h : n < 10
  · rw [Lib.decDigits_one h]; simp
  · rw [dec_big h]; simp
theorem dec_in (n : Nat) : ∀ c ∈ Lib.decDigits n, 48 ≤ c.toNat ∧ c.toNat ≤ 57 := by
  induction n using Nat.strongRecOn with
  | _ n ih =>
    intro c hc
    by_cases h : n < 10
    · rw [Lib.decDigits_one h, List.mem_singleton] at hc
      subst hc
      rw [dg_nat h]
      omega
    · rw [dec_big h, List.mem_append, List.mem_singleton] at hc
      rcases hc with hc | rfl
      · exact ih (n / 10) (by omega) c hc
      · rw [dg_nat (by omega)]
        omega
theorem dec_go (n : Nat) : wgo 0 (Lib.decDigits n) = (n : Int) := by
  induction n using Nat.strongRecOn with
  | _ n ih =>
    by_cases h : n < 10
    · rw [Lib.decDigits_one h, wgo, wgo, dg_nat h, if_neg (by omega)]
      omega
    · rw [dec_big h, wgo_snoc _ _ _ (by omega), ih (n / 10) (by omega), if_neg (by omega), dg_nat (by omega), if_neg (by omega)]
      omega
theorem head_app {a b : List UInt8} (h : a ≠ []) : (a ++ b).head? = a.head? := by
  cases a with
  | nil => exact absurd rfl h
  | cons x a => rfl
theorem dec_head (n : Nat) : 1 ≤ n → (Lib.decDigits n).head? ≠ some 48 := by
  induction n using Nat.strongRecOn with
  | _ n ih =>
    intro h1
    by_cases h : n < 10
    · rw [Lib.decDigits_one h]
      intro e
      have e2 : UInt8.ofNat (48 + n) = 48 := by simpa using e
      have := congrArg UInt8.toNat e2
      rw [dg_nat h] at this
      have h48 : (48 : UInt8).toNat = 48 := rfl
      omega
    · rw [dec_big h, head_app (dec_ne _)]
      exact ih (n / 10) (by omega) (by omega)
theorem go_dec : ∀ (k : Nat) (s : List UInt8), s.length = k → s ≠ [] → (1 < s.length → s.head? ≠ some 48) → ∀ n : Int, 0 ≤ n → wgo 0 s = n → s = Lib.decDigits n.toNat
  | 0, s, hk, hne, _, n, _, _ => absurd (List.length_eq_zero_iff.1 hk) hne
  | k + 1, s, hk, hne, hz, n, hn, h => by
    obtain ⟨u, c, rfl⟩ : ∃ u c, s = u ++ [c] := ⟨s.dropLast, s.getLast hne, (List.dropLast_concat_getLast hne).symm⟩
    rw [wgo_snoc _ _ _ (by omega)] at h
    have hlu : u.length = k := by simpa using hk
    by_cases hu : u = []
    · subst hu
      rw [show wgo 0 [] = 0 from rfl, if_neg (by omega : ¬ (0 : Int) = -1)] at h
      split at h
      · omega
      · rename_i hc
        have e : n.toNat = c.toNat - 48 := by omega
        rw [e, Lib.decDigits_one (by omega), List.nil_append, show 48 + (c.toNat - 48) = c.toNat by omega, UInt8.ofNat_toNat]
    · have hl1 : 1 ≤ u.length := by
        cases u with
        | nil => exact absurd rfl hu
        | cons _ _ => simp
      have hh := hz (by simp; omega)
      rw [head_app hu] at hh
      have hg := wgo_ge u 0 (by omega)
      by_cases hm : wgo 0 u = -1
      · rw [if_pos hm] at h; omega
      · rw [if_neg hm] at h
        split at h
        · omega
        · rename_i hc
          have ih := go_dec k u hlu hu (fun _ => hh) (wgo 0 u) (by omega) rfl
          obtain ⟨m, hm2⟩ : ∃ m, (wgo 0 u).toNat = m := ⟨_, rfl⟩
          rw [hm2] at ih
          have hm1 : 1 ≤ m := by
            rcases Nat.eq_zero_or_pos m with e | e
            · exfalso
              subst e
              apply hh
              rw [ih, Lib.decDigits_one (by omega)]
              rfl
            · exact e
          have en : n.toNat = 10 * m + (c.toNat - 48) := by omega
          have hc1 : c.toNat - 48 < 10 := by omega
          rw [dec_big (by omega : ¬ n.toNat < 10), ih, en, show (10 * m + (c.toNat - 48)) / 10 = m by omega, show (10 * m + (c.toNat - 48)) % 10 = c.toNat - 48 by omega, show 48 + (c.toNat - 48) = c.toNat by omega, UInt8.ofNat_toNat]
theorem whole_dec {n : Nat} (h : n ≤ 1073741824) : wholeM (Lib.decDigits n) = (n : Int) := by
  have hl : (Lib.decDigits n).length ≤ 10 := by
    rw [Lib.decDigits_length]
    rcases Nat.lt_or_ge 10 (Lib.nDigits n) with hgt | hle
    · exfalso
      have hz : 10 ^ 10 ≤ n := by
        rcases Nat.lt_or_ge n (10 ^ 10) with hlt | hge
        · exfalso
          have hb : ∀ k, n < 10 ^ (k + 1) → Lib.nDigits n ≤ k + 1 := by
            intro k
            induction k with
            | zero => intro hk; rw [Lib.nDigits_small (by simpa using hk)]; exact Nat.le_refl _
            | succ k ih =>
              intro hk
              rcases Nat.lt_or_ge n (10 ^ (k + 1)) with h1 | h1
              · exact Nat.le_succ_of_le (ih h1)
              · rw [Lib.nDigits_unique (k + 1) n h1 hk]; exact Nat.le_refl _
          have := hb 9 hlt
          omega
        · exact hge
      have : (10 : Nat) ^ 10 = 10000000000 := by decide
      omega
    · exact hle
  have hne := dec_ne n
  have hp : 0 < (Lib.decDigits n).length := List.length_pos_iff.2 hne
  unfold wholeM
  rw [if_neg, dec_go]
  rintro (h1 | h1 | ⟨h1, h2⟩)
  · omega
  · omega
  · rcases Nat.eq_zero_or_pos n with e | e
    · subst e
      rw [Lib.decDigits_one (by omega)] at h2
      simp at h2
    · exact dec_head n e h1
theorem whole_eq {s : List UInt8} (h : 0 ≤ wholeM s) : s = Lib.itoa (wholeM s) := by
  unfold wholeM at h ⊢
  split at h
  · omega
  · rename_i hc
    rw [if_neg hc]
    have h1 : s ≠ [] := fun e => hc (.inl (by rw [e]; rfl))
    have h2 : 1 < s.length → s.head? ≠ some 48 := fun hl e => hc (.inr (.inr ⟨e, hl⟩))
    unfold Lib.itoa
    rw [if_neg (by omega)]
    exact go_dec _ s rfl h1 h2 _ h rfl
theorem itoa_nat {n : Int} (h : 0 ≤ n) : Lib.itoa n = Lib.decDigits n.toNat := by unfold Lib.itoa; rw [if_neg (by omega)]
theorem whole_itoa {n : Int} (h0 : 0 ≤ n) (h1 : n ≤ 1073741824) : wholeM (Lib.itoa n) = n := by
  rw [itoa_nat h0, whole_dec (by omega)]
  omega
theorem itoa_no {n : Int} (h : 0 ≤ n) : ∀ c ∈ Lib.itoa n, c ≠ 32 := by
  rw [itoa_nat h]
  intro c hc e
  have := dec_in _ c hc
  subst e
  have h32 : (32 : UInt8).toNat = 32 := rfl
  omega
/-! ### strconv.Atoi of a number's digits -/
theorem parse_go : ∀ (s : List UInt8) (a n : Nat), (∀ c ∈ s, 48 ≤ c.toNat ∧ c.toNat ≤ 57) → wgo (a : Int) s = (n : Int) → n ≤ 1000000000000 → Lib.parseUint10 a s = .ok n
  | [], a, n, _, h, _ => by
    simp only [wgo] at h
    rw [Lib.parseUint10, show a = n by omega]
  | c :: s, a, n, hc, h, hn => by
    obtain ⟨h1, h2⟩ := hc c (List.mem_cons_self ..)
    rw [wgo, if_neg (by omega)] at h
    have hmono : ∀ (s : List UInt8) (m : Int), 0 ≤ m → (∀ c ∈ s, 48 ≤ c.toNat ∧ c.toNat ≤ 57) → m ≤ wgo m s := by
      intro s
      induction s with
      | nil => intro m _ _; exact Int.le_refl _
      | cons d s ih =>
        intro m hm hd
        obtain ⟨g1, g2⟩ := hd d (List.mem_cons_self ..)
        rw [wgo, if_neg (by omega)]
        have := ih (10 * m + ((d.toNat : Int) - 48)) (by omega) fun x hx => hd x (List.mem_cons_of_mem _ hx)
        omega
    have hm := hmono s (10 * (a : Int) + ((c.toNat : Int) - 48)) (by omega) fun x hx => hc x (List.mem_cons_of_mem _ hx)
    have e : 10 * (a : Int) + ((c.toNat : Int) - 48) = ((a * 10 + (c.toNat - 48) : Nat) : Int) := by omega
    rw [Lib.parseUint10, if_pos ⟨h1, h2⟩, if_neg (by omega), if_neg (by omega)]
    rw [e] at h
    exact parse_go s _ n (fun x hx => hc x (List.mem_cons_of_mem _ hx)) h hn
theorem atoi_itoa {n : Int} (h0 : 0 ≤ n) (h1 : n ≤ 1073741824) : atoiV (Lib.itoa n) = n := by
  rw [itoa_nat h0]
  have hp := parse_go (Lib.decDigits n.toNat) 0 n.toNat (dec_in _) (dec_go _) (by omega)
  rcases hd : Lib.decDigits n.toNat with _ | ⟨c, r⟩
  · exact absurd hd (dec_ne _)
  · obtain ⟨g1, g2⟩ := dec_in n.toNat c (by rw [hd]; exact List.mem_cons_self ..)
    unfold atoiV
    rw [Lib.atoiAll_plain c r (by omega) (by omega), Lib.parseMag, if_neg (by simp), ← hd, hp]
    simp only [Lib.signless]
    rw [if_neg (by omega)]
    show ((n.toNat : Nat) : Int) = n
    omega
end Go.Proofs.YtkjlafpafmihaaaDoor

namespace Go.Proofs.YtkjlafpafmihaaaDoor
open Go.ChangeShapes Go.WideShapes Go.RowKit
def bareL : List (Int × Int) := [(1, 0), (3, 0), (4, 0), (5, 0), (6, 0), (7, 0), (8, 0), (9, 0), (10, 0), (2, 1), (2, 2), (2, 3)]
def kindL : List (Int × Int) := (List.range 10).flatMap fun (k : Nat) => (List.range 4).map fun (e : Nat) => ((k : Int) + 1, (e : Int))
def bareA (p : Int × Int) : Ac := ⟨p.1, 0, 0, 0, 0, p.2, 0, 0, 0, 0, 0⟩
def wordP (p : Int × Int) : List UInt8 := (wordOf p.1 p.2).data.toList
def hitB (u : List UInt8) (p : Int × Int) : Bool := decide (wordP p = u)
def hitK (u : List UInt8) (p : Int × Int) : Bool := (formL p.1 p.2).isSome && decide (wordP p = u) && (decide (p.1 = 2) || decide (p.2 = 0))
def ofInts (c : List Int) : Ac := ⟨c.getD 0 0, c.getD 1 0, c.getD 2 0, c.getD 3 0, c.getD 4 0, c.getD 5 0, c.getD 6 0, c.getD 7 0, c.getD 8 0, c.getD 9 0, c.getD 10 0⟩
def putA (c : List Int) (l : List (Nat × Int)) (vs : List Int) : List Int := (l.zip vs).foldl (fun c q => c.set q.1.1 q.2) c
def mkA (p : Int × Int) (l : List (Nat × Int)) (vs : List Int) : Ac := ofInts (putA (bareA p).ints l vs)
/-- A line's act, as the document reads it. -/
def lineRef (s : List UInt8) : Option Ac := match bareL.find? (hitB ((wordsC [] s).headD [])) with
  | none => none
  | some p => match formL p.1 p.2 with
    | none => none
    | some l => if (wordsC [] s).length ≠ l.length + 1 then none
      else if actFault (mkA p l ((wordsC [] s).tail.map wholeM)) = 0 then some (mkA p l ((wordsC [] s).tail.map wholeM)) else none
/-- A line's act, as far as the code can read it. -/
def kindM (u : List UInt8) : Int × Int := (kindL.find? (hitK u)).getD (0, 0)
def actM (ws : List (List UInt8)) : Ac := match formL (kindM (ws.headD [])).1 (kindM (ws.headD [])).2 with
  | none => bareA (kindM (ws.headD []))
  | some l => mkA (kindM (ws.headD [])) l (ws.tail.map atoiV)
theorem putA_len : ∀ (l : List (Nat × Int)) (vs : List Int) (c : List Int), (putA c l vs).length = c.length
  | [], vs, c => by simp [putA]
  | p :: l, [], c => by simp [putA]
  | p :: l, v :: vs, c => by
    show (putA (c.set p.1 v) l vs).length = _
    rw [putA_len l vs, List.length_set]
theorem ofInts_ints {c : List Int} (h : c.length = 11) : (ofInts c).ints = c := by
  match c, h with
  | [a, b, d, e, f, g, i, j, k, m, n], _ => rfl
theorem mkA_ints (p : Int × Int) (l : List (Nat × Int)) (vs : List Int) : (mkA p l vs).ints = putA (bareA p).ints l vs := ofInts_ints (by rw [putA_len]; rfl)
theorem five {α : Type} : ∀ (vs : List α), vs.length ≤ 5 → vs = [] ∨ (∃ a, vs = [a]) ∨ (∃ a b, vs = [a, b]) ∨ (∃ a b c, vs = [a, b, c]) ∨ (∃ a b c d, vs = [a, b, c, d]) ∨ (∃ a b c d e, vs = [a, b, c, d, e])
  | [], _ => .inl rfl
  | [a], _ => .inr (.inl ⟨a, rfl⟩)
  | [a, b], _ => .inr (.inr (.inl ⟨a, b, rfl⟩))
  | [a, b, c], _ => .inr (.inr (.inr (.inl ⟨a, b, c, rfl⟩)))
  | [a, b, c, d], _ => .inr (.inr (.inr (.inr (.inl ⟨a, b, c, d, rfl⟩))))
  | [a, b, c, d, e], _ => .inr (.inr (.inr (.inr (.inr ⟨a, b, c, d, e, rfl⟩))))
  | _ :: _ :: _ :: _ :: _ :: _ :: _, h => by simp at h
/-- What the numbers of an act so made are. -/
theorem mkA_get {p : Int × Int} {l : List (Nat × Int)} {vs : List Int} (h : formL p.1 p.2 = some l) (hv : vs.length = l.length) : (mkA p l vs).kd = p.1 ∧ (mkA p l vs).ek = p.2 ∧ l.map (fun q => (mkA p l vs).get q.1) = vs := by
  obtain ⟨kd, ek⟩ := p
  have hl5 := form_len h
  rcases five vs (by omega) with rfl | ⟨a, rfl⟩ | ⟨a, b, rfl⟩ | ⟨a, b, c, rfl⟩ | ⟨a, b, c, d, rfl⟩ | ⟨a, b, c, d, e, rfl⟩
  all_goals
    rcases kinds kd ek with rfl | rfl | rfl | rfl | rfl | rfl | rfl | rfl | rfl | ⟨rfl, rfl⟩ | ⟨rfl, rfl⟩ | ⟨rfl, rfl⟩ | hn
    all_goals first
      | (rw [hn] at h; cases h; done)
      | (simp [formL] at h; subst h; first | (simp at hv; done) | simp [mkA, putA, ofInts, bareA, Ac.ints, Ac.get])
theorem keep_self {x : Ac} (h : actFault x = 0) : x = keep x := by
  obtain ⟨l, hf⟩ := zero_some h
  have ha : l.all (inB x) = true := by
    by_cases h2 : l.all (inB x) = true
    · exact h2
    · rw [af_range hf h2] at h; cases h
  have hfin : fin x l = zeros := by
    by_cases h2 : fin x l = zeros
    · exact h2
    · rw [af_rest hf ha h2] at h; cases h
  exact ints_eq ((keep_fin hf).2 hfin)
/-- An act that may be is the act that its kind and its numbers make. -/
theorem mkA_self {x : Ac} {l : List (Nat × Int)} (h : actFault x = 0) (hf : formL x.kd x.ek = some l) : mkA (x.kd, x.ek) l (l.map fun q => x.get q.1) = x := by
  have hk := keep_self h
  clear h
  obtain ⟨kd, nd, qu, at_, kp, ek, ep, ei, eb, eh, en⟩ := x
  dsimp only at hf
  rcases kinds kd ek with rfl | rfl | rfl | rfl | rfl | rfl | rfl | rfl | rfl | ⟨rfl, rfl⟩ | ⟨rfl, rfl⟩ | ⟨rfl, rfl⟩ | hn
  all_goals first
    | (rw [hn] at hf; cases hf; done)
    | (simp [formL] at hf; subst hf; simp [keep] at hk; simp [mkA, putA, ofInts, bareA, Ac.ints, Ac.get, hk])
theorem keep_ek {x : Ac} (h : actFault x = 0) : (x.kd, x.ek) ∈ bareL := by
  have hk := keep_self h
  obtain ⟨l, hf⟩ := zero_some h
  clear h
  obtain ⟨kd, nd, qu, at_, kp, ek, ep, ei, eb, eh, en⟩ := x
  dsimp only at hf ⊢
  rcases kinds kd ek with rfl | rfl | rfl | rfl | rfl | rfl | rfl | rfl | rfl | ⟨rfl, rfl⟩ | ⟨rfl, rfl⟩ | ⟨rfl, rfl⟩ | hn
  all_goals first
    | (rw [hn] at hf; cases hf; done)
    | (simp [keep] at hk; simp [bareL, hk])
theorem find_bare {p : Int × Int} (h : p ∈ bareL) : bareL.find? (hitB (wordP p)) = some p := by
  simp only [bareL, List.mem_cons, List.mem_nil_iff, or_false] at h
  rcases h with rfl | rfl | rfl | rfl | rfl | rfl | rfl | rfl | rfl | rfl | rfl | rfl <;> rfl
theorem kind_all : bareL.all (fun p => decide (kindM (wordP p) = p)) = true := by kernel_rfl
theorem kind_bare {p : Int × Int} (h : p ∈ bareL) : kindM (wordP p) = p := by simpa using List.all_eq_true.1 kind_all p h
theorem word_no {p : Int × Int} (h : p ∈ bareL) : ∀ c ∈ wordP p, c ≠ 32 ∧ c ≠ 10 := by
  simp only [bareL, List.mem_cons, List.mem_nil_iff, or_false] at h
  rcases h with rfl | rfl | rfl | rfl | rfl | rfl | rfl | rfl | rfl | rfl | rfl | rfl <;> decide
theorem lineTo_glue (x : Ac) (l : List (Nat × Int)) : lineTo x l = glue (wordB x) (l.map fun p => Lib.itoa (x.get p.1)) := by
  have gen : ∀ (l : List (Nat × Int)) (s : List UInt8), l.foldl (numB x) s = s ++ (l.map fun p => Lib.itoa (x.get p.1)).flatMap fun v => 32 :: v := by
    intro l
    induction l with
    | nil => intro s; simp
    | cons p l ih => intro s; rw [List.foldl_cons, ih]; simp [numB]
  exact gen l _
theorem line_words {x : Ac} {l : List (Nat × Int)} (h : actFault x = 0) (hf : formL x.kd x.ek = some l) : wordsC [] (lineB x) = wordP (x.kd, x.ek) :: l.map fun p => Lib.itoa (x.get p.1) := by
  rw [line_at hf, lineTo_glue]
  refine wordsC_glue _ _ (fun c hc => (word_no (keep_ek h) c hc).1) fun v hv => ?_
  obtain ⟨q, hq, rfl⟩ := List.mem_map.1 hv
  exact itoa_no (num_in hf h q hq).1
theorem map_id {α : Type} {f : α → α} : ∀ {l : List α}, (∀ x ∈ l, f x = x) → l.map f = l
  | [], _ => rfl
  | x :: l, h => by rw [List.map_cons, h x (List.mem_cons_self ..), map_id fun y hy => h y (List.mem_cons_of_mem _ hy)]
/-- The code reads an act's line back. -/
theorem act_line {x : Ac} (h : actFault x = 0) : actM (wordsC [] (lineB x)) = x := by
  obtain ⟨l, hf⟩ := zero_some h
  have hv : (l.map fun p => Lib.itoa (x.get p.1)).map atoiV = l.map fun p => x.get p.1 := by
    rw [List.map_map]
    refine List.map_congr_left fun p hp => ?_
    have h1 := num_in hf h p hp
    have h2 := most_le hf p hp
    exact atoi_itoa h1.1 (by omega)
  rw [line_words h hf]
  unfold actM
  simp only [List.headD_cons, kind_bare (keep_ek h), hf, List.tail_cons, hv]
  exact mkA_self h hf
/-- So does the document. -/
theorem ref_line {x : Ac} (h : actFault x = 0) : lineRef (lineB x) = some x := by
  obtain ⟨l, hf⟩ := zero_some h
  have hv : (l.map fun p => Lib.itoa (x.get p.1)).map wholeM = l.map fun p => x.get p.1 := by
    rw [List.map_map]
    refine List.map_congr_left fun p hp => ?_
    have h1 := num_in hf h p hp
    have h2 := most_le hf p hp
    exact whole_itoa h1.1 (by omega)
  unfold lineRef
  rw [line_words h hf]
  simp only [List.headD_cons, find_bare (keep_ek h), hf, List.tail_cons, hv, List.length_cons, List.length_map, ne_eq, not_true_eq_false, if_false]
  rw [mkA_self h hf, if_pos h]
/-- What the document reads off a line is the act of that line. -/
theorem ref_sound {s : List UInt8} {x : Ac} (h : lineRef s = some x) : actFault x = 0 ∧ lineB x = s := by
  unfold lineRef at h
  split at h
  · cases h
  rename_i p hp
  split at h
  · cases h
  rename_i l hf
  split at h
  · cases h
  rename_i hlen
  split at h
  · rename_i h0
    have hx := Option.some.inj h
    rcases hw : wordsC [] s with _ | ⟨u, ws⟩
    · exact absurd hw (wordsC_ne s [])
    · rw [hw] at hp hlen hx h0
      simp only [List.headD_cons, List.tail_cons, List.length_cons] at hp hlen hx h0
      have hwl : ws.length = l.length := by omega
      obtain ⟨g1, g2, g3⟩ := mkA_get hf (vs := ws.map wholeM) (by rw [List.length_map, hwl])
      rw [hx] at h0 g1 g2 g3
      have hf' : formL x.kd x.ek = some l := by rw [g1, g2]; exact hf
      have hu : wordP p = u := by
        have := List.find?_some hp
        simpa [hitB] using this
      have hws : (l.map fun q => Lib.itoa (x.get q.1)) = ws := by
        have e : (l.map fun q => Lib.itoa (x.get q.1)) = (ws.map wholeM).map Lib.itoa := by rw [← g3, List.map_map]; rfl
        rw [e, List.map_map]
        refine map_id fun v hv => ?_
        have hm : wholeM v ∈ l.map fun q => x.get q.1 := by rw [g3]; exact List.mem_map_of_mem hv
        obtain ⟨q, hq, hqv⟩ := List.mem_map.1 hm
        exact (whole_eq (by rw [← hqv]; exact (num_in hf' h0 q hq).1)).symm
      refine ⟨h0, ?_⟩
      have hg := glue_words s [] u ws hw
      rw [List.nil_append] at hg
      rw [line_at hf', lineTo_glue, hws, hg, ← hu]
      unfold wordB wordP
      rw [g1, g2]
  · cases h
/-- The code takes a line just where the document reads an act off it, and it is that act. -/
theorem take_line {s : List UInt8} {x : Ac} (h : lineRef s = some x) : actM (wordsC [] s) = x ∧ actFault x = 0 ∧ lineB x = s := by
  obtain ⟨h0, h1⟩ := ref_sound h
  subst h1
  exact ⟨act_line h0, h0, rfl⟩
theorem drop_line {s : List UInt8} {x : Ac} (h0 : actFault x = 0) (h1 : lineB x = s) : lineRef s = some x := by subst h1; exact ref_line h0
/-! ### A text -/
def readC : List UInt8 → List UInt8 → List Ac → List Ac × Nat × Int
  | cur, [], l => if cur = [] then (l, 0, 0) else if l.length = 100000 then ([], 100000, 14) else ([], l.length, 3)
  | cur, c :: t, l => if c = 10 then (if l.length = 100000 then ([], 100000, 14) else match lineRef cur with
      | none => ([], l.length, 3)
      | some x => readC [] t (l ++ [x])) else readC (cur ++ [c]) t l
def readM (t : List UInt8) : List Ac × Nat × Int := if 4000000 < t.length then ([], 0, 1) else readC [] t []
theorem readC_app : ∀ (u cur r : List UInt8) (l : List Ac), (∀ c ∈ u, c ≠ 10) → readC cur (u ++ r) l = readC (cur ++ u) r l
  | [], cur, r, l, _ => by simp
  | c :: u, cur, r, l, h => by
    rw [List.cons_append, readC, if_neg (h c (List.mem_cons_self ..)), readC_app u _ r l (fun d hd => h d (List.mem_cons_of_mem _ hd))]
    simp
end Go.Proofs.YtkjlafpafmihaaaDoor

