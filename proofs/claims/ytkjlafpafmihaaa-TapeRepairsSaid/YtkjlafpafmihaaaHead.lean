/- THE HEAD'S WORDS of a program whose order of initialisation is a long string: what the closed facts ask of them, without reckoning the whole string; and the closed facts of a row, one by one. No condition. -/
import Derived.Test.YtkjlafpafmihaaaFrame
namespace Go.Proofs.Ytkjlafpafmihaaa
open Go.ChangeShapes Go.WideShapes Go.ChangeAt Go.RowKit

def blank1 : Char := Char.ofNat 32
theorem words_blank (b : List Char) : wordsSigns (blank1 :: b) = [] :: wordsSigns b := rfl
theorem words_cons : ∀ (a b : List Char), a.all (fun c => !(c == blank1)) = true → wordsSigns (a ++ blank1 :: b) = a :: wordsSigns b
  | [], b, _ => words_blank b
  | c :: a, b, h => by
    simp only [List.all_cons, Bool.and_eq_true, Bool.not_eq_true', beq_eq_false_iff_ne] at h
    have ih := words_cons a b h.2
    rw [List.cons_append, wordsSigns, ih]
    intro e
    exact h.1 e
theorem head_words {l : List Char} (h1 : l.take 8 = "harness".toList ++ [blank1]) (h2 : ((l.drop 8).take 64).all (fun c => !(c == blank1)) = true) (h3 : (l.drop 72).take 5 = [blank1] ++ ("cut".toList ++ [blank1])) :
    ∃ s rest, s = (l.drop 8).take 64 ∧ wordsSigns l = "harness".toList :: s :: "cut".toList :: rest := by
  refine ⟨_, wordsSigns (l.drop 77), rfl, ?_⟩
  generalize hs : (l.drop 8).take 64 = s at h2
  have e1 : l = "harness".toList ++ blank1 :: (s ++ blank1 :: ("cut".toList ++ blank1 :: l.drop 77)) := by
    have a1 : l.take 8 ++ l.drop 8 = l := List.take_append_drop 8 l
    have a2 : (l.drop 8).take 64 ++ (l.drop 8).drop 64 = l.drop 8 := List.take_append_drop 64 _
    have a3 : (l.drop 72).take 5 ++ (l.drop 72).drop 5 = l.drop 72 := List.take_append_drop 5 _
    rw [List.drop_drop] at a2 a3
    rw [h3] at a3
    rw [h1] at a1
    rw [hs] at a2
    calc l = _ := a1.symm
      _ = _ := by rw [← a2, show 8 + 64 = 72 from rfl, ← a3]; simp
  generalize l.drop 77 = r at e1
  rw [e1, words_cons _ _ (by decide), words_cons _ _ h2, words_cons _ _ (by decide)]
theorem strip_cut (rest : List (List Char)) : stripLifts liftWords ("cut".toList :: rest) = ([], "cut".toList :: rest) := by
  unfold liftWords
  repeat (rw [stripLifts, if_neg (by decide)])
  rw [stripLifts]
section
variable {P : Program} {s : List Char} {rest : List (List Char)} (hw : wordsSigns P.initOrder.toList = "harness".toList :: s :: "cut".toList :: rest) (hs : isSumSigns s = true)
include hw hs
theorem behind_cut : behindMainWord (wordsSigns P.initOrder.toList) = "cut".toList :: rest := by
  rw [hw, behindMainWord, if_pos (by rw [hs]; decide)]
theorem mayEnter_cut (h1 : P.laysLater = false) (h2 : P.bearsReflect = false) (h3 : P.doorRows = []) : P.mayEnter = true := by
  unfold Program.mayEnter
  rw [behind_cut hw hs]
  simp only
  rw [strip_cut]
  simp only [h1, h2]
  have h4 : P.doorFits [] = true := by
    unfold Program.doorFits
    rw [h3]
    decide
  rw [h4]
  simp
theorem headLifts_cut : P.headLifts = [] := by
  unfold Program.headLifts
  rw [behind_cut hw hs, strip_cut]
  rfl
theorem liftsFinal_cut : P.liftsFinal = false := by
  unfold Program.liftsFinal
  rw [headLifts_cut hw hs, behind_cut hw hs]
  simp only [List.head?_cons]
  rw [show (some "cut".toList == some "carried".toList) = false by decide]
  rfl
theorem make_cut : P.make = some .cut := by
  unfold Program.make
  rw [behind_cut hw hs]
  simp only
  rw [if_neg (by decide), if_pos (by rw [show ("cut".toList == "cut".toList) = true by decide]; rfl)]
end

/-- The closed facts ahead of the head's. -/
def headFacts (P : Program) (f : FuncId) (fn : Func) (s : ChangeSpec) (c : OpenClaim) : Bool :=
  c.wf (OpenSpec.ofChange s) && laidOutB P && mapsRowed P &&
  fn.params.all (P.readableRec ·) && namedTie P c.named s.vars &&
  (c.stops == []) && (P.stops == []) && (c.knobs == []) && (P.stopKnobs == []) &&
  (c.inPlace == P.inPlace f) && (c.unfollowed == P.unfollowed f) && (c.recurses == P.recurses f) && (c.named == P.varsNamed f) &&
  (c.maps == (fn.params.toList ++ s.plain.varTypes P).any (P.mapsRec ·)) && (c.ifaces == (fn.params.toList ++ s.plain.varTypes P).any (P.ifacesRec ·)) && (c.mapsOut == P.mapsAmong fn.resultTypes.toList) &&
  (c.loops == (fn.params.toList ++ s.plain.varTypes P).any (P.loopsFrom ·)) && (c.wideKeys == (fn.params.toList ++ s.plain.varTypes P ++ fn.resultTypes.toList).any (P.wideKeysFrom ·)) &&
  s.vars.all (P.varReadable ·) && fn.resultTypes.all (fun t => P.readableRec t && decide (t < P.types.size)) && (c.ifacesOut == fn.resultTypes.toList.any (P.ifacesRec ·)) && (c.loopsOut == fn.resultTypes.toList.any (P.loopsFrom ·)) && (c.plainKeys == P.plainKeys) && c.shortTexts.isNone && P.stopsHeard
theorem joined_of {P : Program} {f : FuncId} {fn : Func} {s : ChangeSpec} {c : OpenClaim} (h : headFacts P f fn s c = true) (h1 : P.mayEnter = true) (h2 : (c.lifted == P.liftsFinal) = true) (h3 : (P.make == some c.make) = true)
    (h4 : ((c.kinds == (if c.domain.isEmpty then [] else fn.params.toList.map fun t => match P.underlying t with | some (.int k) => some k | _ => none)) && (c.pinned == c.pinnedBy) &&
      (c.veiled == (fn.params.toList ++ s.plain.varTypes P ++ fn.resultTypes.toList).any (P.veiledRec ·)) && c.veiledFits P fn.params.toList (fn.params.toList ++ s.plain.varTypes P ++ fn.resultTypes.toList)) = true) : joinedFacts P f fn s c = true := by
  have e : joinedFacts P f fn s c = (headFacts P f fn s c && P.mayEnter && (c.lifted == P.liftsFinal) && (P.make == some c.make) && (c.kinds == (if c.domain.isEmpty then [] else fn.params.toList.map fun t => match P.underlying t with | some (.int k) => some k | _ => none)) && (c.pinned == c.pinnedBy) &&
      (c.veiled == (fn.params.toList ++ s.plain.varTypes P ++ fn.resultTypes.toList).any (P.veiledRec ·)) && c.veiledFits P fn.params.toList (fn.params.toList ++ s.plain.varTypes P ++ fn.resultTypes.toList)) := rfl
  rw [e, h, h1, h2, h3]
  simpa using h4

set_option maxRecDepth 100000 in
theorem ord_signs : ∃ l : List Char, Try.prog.initOrder.toList = l ∧ l.take 8 = "harness".toList ++ [blank1] ∧ ((l.drop 8).take 64).all (fun c => !(c == blank1)) = true ∧ (l.drop 72).take 5 = [blank1] ++ ("cut".toList ++ [blank1]) ∧ isSumSigns ((l.drop 8).take 64) = true := by
  rw [show Try.prog.initOrder = Try.tables.initOrder by kernel_rfl]
  unfold Try.tables
  simp only []
  exact ⟨_, String.toList_ofList, by kernel_rfl, by kernel_rfl, by kernel_rfl, by kernel_rfl⟩
theorem ord_words : ∃ s rest, wordsSigns Try.prog.initOrder.toList = "harness".toList :: s :: "cut".toList :: rest ∧ isSumSigns s = true := by
  obtain ⟨l, e, h1, h2, h3, h4⟩ := ord_signs
  obtain ⟨s, rest, es, hw⟩ := head_words h1 h2 h3
  subst es
  exact ⟨_, rest, by rw [e]; exact hw, h4⟩
theorem prog_later : Try.prog.laysLater = false := by kernel_rfl
theorem prog_reflect : Try.prog.bearsReflect = false := by kernel_rfl
theorem prog_doors : Try.prog.doorRows = [] := by kernel_rfl
theorem prog_enter : Try.prog.mayEnter = true := by
  obtain ⟨s, rest, hw, hs⟩ := ord_words
  exact mayEnter_cut hw hs prog_later prog_reflect prog_doors
theorem prog_lifts : (false == Try.prog.liftsFinal) = true := by
  obtain ⟨s, rest, hw, hs⟩ := ord_words
  rw [liftsFinal_cut hw hs]
  rfl
theorem prog_make : (Try.prog.make == some .cut) = true := by
  obtain ⟨s, rest, hw, hs⟩ := ord_words
  rw [make_cut hw hs]
  decide
end Go.Proofs.Ytkjlafpafmihaaa
