/- What every row's proof of this seat uses: closed facts on the program (the words of its head read from a list, which the kernel does quickly), the bounds of an int, a setting that reads as it did. Conditions: those that each lemma names. -/
import Derived.Test.YtegfcpdkehgdpaaKit
import Derived.Test.YtegfcpdkehgdpaaRows
import Derived.ProofKit
import Derived.Lib.SmallJoins
import Derived.Carry
import Derived.JoinedOf
import Derived.KernelRfl
namespace Go.Proofs.Ytegfcpdkehgdpaa
open Go.ChangeShapes Go.WideShapes Go.ChangeAt Go.RowKit Go.Joins

set_option maxRecDepth 100000 in
theorem io_list : ∃ l, Try.prog.initOrder = String.ofList l ∧ l[79]? = some (Char.ofNat 32) ∧ wordsSigns (l.take 79) = ["harness".toList, (l.drop 8).take 64, "cut".toList, "at".toList] ∧ isSumSigns ((l.drop 8).take 64) = true :=
  ⟨_, rfl, by kernel_rfl, by kernel_rfl, by kernel_rfl⟩
theorem wordsSigns_app : ∀ (x r : List Char), wordsSigns (x ++ Char.ofNat 32 :: r) = wordsSigns x ++ wordsSigns r
  | [], r => rfl
  | c :: x, r => by
    have ih := wordsSigns_app x r
    by_cases hc : c = Char.ofNat 32
    · subst hc
      show [] :: wordsSigns (x ++ Char.ofNat 32 :: r) = ([] :: wordsSigns x) ++ wordsSigns r
      rw [ih]; rfl
    · have key : ∀ y, wordsSigns (c :: y) = (match wordsSigns y with | w :: ws => (c :: w) :: ws | [] => [[c]]) := by
        intro y
        rw [wordsSigns.eq_def]
        split
        · rename_i h; cases h
        · rename_i h; cases h; exact absurd rfl hc
        · rename_i h; cases h; rfl
      rw [List.cons_append, key, key, ih]
      cases hx : wordsSigns x with
      | nil =>
        exfalso
        cases x with
        | nil => cases hx
        | cons d x =>
          rw [wordsSigns.eq_def] at hx
          split at hx
          · rename_i h; cases h
          · cases hx
          · split at hx <;> cases hx
      | cons w ws => rfl
theorem io_words : ∃ r, behindMainWord (wordsSigns Try.prog.initOrder.toList) = "cut".toList :: r := by
  obtain ⟨l, h1, h2, h3, h4⟩ := io_list
  rw [h1, String.toList_ofList]
  obtain ⟨hlt, hg⟩ := List.getElem?_eq_some_iff.1 h2
  have hs : l = l.take 79 ++ Char.ofNat 32 :: l.drop 80 := by
    rw [← hg, ← List.drop_eq_getElem_cons hlt, List.take_append_drop]
  rw [hs, wordsSigns_app, h3]
  refine ⟨ "at".toList :: wordsSigns (l.drop 80), ?_⟩
  simp only [List.cons_append, behindMainWord, h4, beq_self_eq_true, Bool.true_or, Bool.true_and, if_true, List.nil_append]
theorem make_of {P : Program} {r : List (List Char)} (h : behindMainWord (wordsSigns P.initOrder.toList) = "cut".toList :: r) : P.make = some .cut := by
  unfold Program.make; rw [h]; rfl
theorem strip_of (r : List (List Char)) : stripLifts liftWords ("cut".toList :: r) = ([], "cut".toList :: r) := rfl
theorem final_of {P : Program} {r : List (List Char)} (h : behindMainWord (wordsSigns P.initOrder.toList) = "cut".toList :: r) : P.liftsFinal = false := by
  unfold Program.liftsFinal Program.headLifts; simp only [h, strip_of]; rfl
theorem enter_of {P : Program} {r : List (List Char)} (h : behindMainWord (wordsSigns P.initOrder.toList) = "cut".toList :: r) (h1 : P.laysLater = false) (h2 : P.bearsReflect = false) (h3 : P.doorFits [] = true) : P.mayEnter = true := by
  unfold Program.mayEnter; rw [h]; simp only [strip_of, h1, h2, h3]; rfl
theorem j_later : Try.prog.laysLater = false := by kernel_rfl
theorem j_reflect : Try.prog.bearsReflect = false := by kernel_rfl
theorem j_door : Try.prog.doorFits [] = true := by kernel_rfl
theorem j2 : laidOutB Try.pinned.checked.prog = true := by kernel_rfl
theorem j3 : mapsRowed Try.pinned.checked.prog = true := by kernel_rfl
theorem j7 : (Try.pinned.checked.prog.stops == []) = true := by kernel_rfl
theorem j9 : (Try.pinned.checked.prog.stopKnobs == []) = true := by kernel_rfl
theorem j25 : Try.pinned.checked.prog.stopsHeard = true := by kernel_rfl
theorem j26 : Try.pinned.checked.prog.mayEnter = true := by
  obtain ⟨r, h⟩ := io_words
  exact enter_of (P := Try.prog) h j_later j_reflect j_door
theorem j27 : Try.pinned.checked.prog.liftsFinal = false := by
  obtain ⟨r, h⟩ := io_words
  exact final_of (P := Try.prog) h
theorem j28 : Try.pinned.checked.prog.make = some .cut := by
  obtain ⟨r, h⟩ := io_words
  exact make_of (P := Try.prog) h
theorem and2 {a b : Bool} (ha : a = true) (hb : b = true) : (a && b) = true := by rw [ha, hb]; rfl
theorem try_own : ownKnob Try.prog.godebug = none := by kernel_rfl
end Go.Proofs.Ytegfcpdkehgdpaa
