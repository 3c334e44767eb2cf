/- The walks of ClearCode, EndCode, LastCode. Conditions: each field is an int. -/
import Derived.Test.YthdmnpjdpfeleaaDoorS
namespace Go.Proofs.YthdmnpjdpfeleaaDoor
open Go.RowKit

theorem Sx.setOK_bd {o l m : Int} (h : Sx.setOK o l m = true) : 1 ≤ l ∧ l ≤ 8 ∧ l + 2 ≤ m ∧ m ≤ 10 := by
  simp only [Sx.setOK, decide_eq_true_iff] at h; exact h.2
theorem Sx.setOK_od {o l m : Int} (h : Sx.setOK o l m = true) : o = 0 ∨ o = 1 := by
  simp only [Sx.setOK, decide_eq_true_iff] at h; exact h.1
end Go.Proofs.YthdmnpjdpfeleaaDoor
