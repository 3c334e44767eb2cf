/- Plain facts on numbers and lists: no program. Conditions: none beyond what each lemma says. -/
import Derived.Lib.BitFns
namespace Go.Proofs.Ytgjfjfecdkkdgaa
namespace Sx
/-- The number of binary digits, 1 for 0. -/
def need (n : Nat) : Nat := n.log2 + 1
theorem need_small {n : Nat} (h : n ≤ 1) : need n = 1 := by
  unfold need; rw [Nat.log2_def, if_neg (by omega)]
theorem need_half {n : Nat} (h : 2 ≤ n) : need n = need (n / 2) + 1 := by
  unfold need; rw [Nat.log2_def n, if_pos h]
/-- BitsNeeded. -/
def needI (n : Int) : Int := if n < 0 then -1 else (need n.toNat : Int)
theorem need_pos (n : Nat) : 1 ≤ need n := by unfold need; omega
theorem need_le64 {n : Nat} (h : n < 18446744073709551616) : need n ≤ 64 := by
  unfold need
  by_cases h0 : n = 0
  · subst h0; decide
  · have := (Nat.log2_lt h0 (k := 64)).2 h; omega
theorem bitLen_need : ∀ (k n : Nat), n < 2 ^ k → k ≤ 64 → max 1 (Lib.bitLen n) = need n := by
  intro k
  induction k with
  | zero => intro n h _; have : n = 0 := by omega
            subst this; decide
  | succ k ih =>
    intro n h hk
    by_cases h1 : n ≤ 1
    · have : n = 0 ∨ n = 1 := by omega
      rcases this with rfl | rfl <;> decide
    · have hp : (2 : Nat) ^ (k + 1) ≤ 2 ^ 64 := Nat.pow_le_pow_right (by omega) hk
      rw [need_half (by omega), Lib.bitLen_half n (by omega) (by omega), ← ih (n / 2) (by rw [Nat.pow_succ] at h; omega) (by omega)]
      have : 1 ≤ Lib.bitLen (n / 2) := by rw [Lib.bitLen_half (n / 2) (by omega) (by omega)]; omega
      omega
end Sx
end Go.Proofs.Ytgjfjfecdkkdgaa
