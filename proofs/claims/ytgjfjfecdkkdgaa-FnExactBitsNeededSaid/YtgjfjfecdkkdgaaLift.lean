/- What every row's proof of this seat uses: closed facts on the program, the bounds of an int, a setting that reads as it did. Conditions: those that each lemma names. -/
import Derived.Test.YtgjfjfecdkkdgaaKit
import Derived.Test.YtgjfjfecdkkdgaaRows
import Derived.ProofKit
import Derived.Lib.SmallJoins
import Derived.Carry
namespace Go.Proofs.Ytgjfjfecdkkdgaa
open Go.ChangeShapes Go.WideShapes Go.ChangeAt Go.RowKit Go.Joins

theorem try_own : ownKnob Try.prog.godebug = none := by kernel_rfl
theorem try_cellsS : Try.prog.cellsOf 25 = 3 := by kernel_rfl
theorem int_of_wf {x : Int} (h : (Lit.int .i64 x).wf = true) : -9223372036854775808 ≤ x ∧ x ≤ 9223372036854775807 := by
  simp [Lit.wf, IntKind.min, IntKind.max, IntKind.signed, IntKind.bits] at h
  exact ⟨by omega, by omega⟩
theorem shutS {H : Type} {enc : TypeId × Value → H} {W' : World} {sp : Nat → Bool} {o l m : Int} (wo : (Lit.int .i64 o).wf = true) (wl : (Lit.int .i64 l).wf = true) (wm : (Lit.int .i64 m).wf = true) :
    DataW.Trod enc Try.prog W' 0 sp true 25 (.agg #[.int .i64 o, .int .i64 l, .int .i64 m]) (.agg [.lit (.int .i64 o), .lit (.int .i64 l), .lit (.int .i64 m)]) [] :=
  shut_agg3 (y0 := (.lit (.int .i64 o), [])) (y1 := (.lit (.int .i64 l), [])) (y2 := (.lit (.int .i64 m), [])) Try.underlying25 (by kernel_rfl) try_cellsS
    ⟨1, by simp [DataW.trod, Try.underlying3, wo]⟩ ⟨1, by simp [DataW.trod, Try.underlying3, wl]⟩ ⟨1, by simp [DataW.trod, Try.underlying3, wm]⟩
end Go.Proofs.Ytgjfjfecdkkdgaa
