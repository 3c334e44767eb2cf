/- The walks of ClearCode, EndCode, LastCode. Conditions: each field is an int. -/
import Derived.Test.YthdmnpjdpfeleaaDoorS
namespace Go.Proofs.YthdmnpjdpfeleaaDoor
open Go.RowKit

theorem Sx.two_lit {l : Int} (h : l ≤ 10) : Sx.two l ≤ 1024 := by
  have := Sx.two_le (a := l) 10 (by omega); simpa using this

theorem wrap_two {l : Int} (h2 : l ≤ 10) : wrap64 (2 ^ l.toNat) = Sx.two l := by
  have h := Sx.two_lit h2
  have h1 := Sx.two_pos l
  unfold Sx.two at h h1 ⊢
  rw [Int.natCast_pow] at h h1 ⊢
  exact IntWalk.wrap64_in _ ⟨by simp at h1 ⊢; omega, by simp at h ⊢; omega⟩

theorem Sx.setOK_bd {o l m : Int} (h : Sx.setOK o l m = true) : 1 ≤ l ∧ l ≤ 8 ∧ l + 2 ≤ m ∧ m ≤ 10 := by
  simp only [Sx.setOK, decide_eq_true_iff] at h; exact h.2
theorem Sx.setOK_od {o l m : Int} (h : Sx.setOK o l m = true) : o = 0 ∨ o = 1 := by
  simp only [Sx.setOK, decide_eq_true_iff] at h; exact h.1
theorem Sx.clear_yes {o l m : Int} (h : Sx.setOK o l m = true) : Sx.clearI o l m = Sx.two l := if_pos h
theorem Sx.clear_no {o l m : Int} (h : Sx.setOK o l m = false) : Sx.clearI o l m = -1 := if_neg (by simp [h])
theorem Sx.end_yes {o l m : Int} (h : Sx.setOK o l m = true) : Sx.endI o l m = Sx.two l + 1 := if_pos h
theorem Sx.end_no {o l m : Int} (h : Sx.setOK o l m = false) : Sx.endI o l m = -1 := if_neg (by simp [h])
theorem Sx.last_yes {o l m : Int} (h : Sx.setOK o l m = true) : Sx.lastI o l m = Sx.two m - 1 := if_pos h
theorem Sx.last_no {o l m : Int} (h : Sx.setOK o l m = false) : Sx.lastI o l m = -1 := if_neg (by simp [h])

end Go.Proofs.YthdmnpjdpfeleaaDoor
