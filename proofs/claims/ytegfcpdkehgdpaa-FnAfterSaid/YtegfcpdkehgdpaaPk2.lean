/- Plain facts on the codes of a setting: no program. Conditions: those that each lemma names. -/
import Derived.Test.YtegfcpdkehgdpaaK5
namespace Go.Proofs.Ytegfcpdkehgdpaa
namespace Sx
theorem two_step {a b : Int} (h0 : 0 ≤ a) (h : a + 2 ≤ b) : 4 * two a ≤ two b := by
  obtain ⟨x, rfl⟩ := Int.eq_ofNat_of_zero_le h0
  obtain ⟨y, rfl⟩ := Int.eq_ofNat_of_zero_le (show 0 ≤ b by omega)
  unfold two
  rw [Int.toNat_natCast, Int.toNat_natCast]
  have h1 : (2 : Nat) ^ (x + 2) ≤ 2 ^ y := Nat.pow_le_pow_right (by omega) (by omega)
  rw [Nat.pow_add] at h1
  omega
theorem two_ge {a : Int} (h : 1 ≤ a) : 2 ≤ two a := by
  obtain ⟨x, rfl⟩ := Int.eq_ofNat_of_zero_le (show 0 ≤ a by omega)
  unfold two
  rw [Int.toNat_natCast]
  have h1 : (2 : Nat) ^ 1 ≤ 2 ^ x := Nat.pow_le_pow_right (by omega) (by omega)
  omega
theorem two_byte {l : Int} (h : l ≤ 8) : two l ≤ 256 := two_le 8 h
theorem need_end_all : ∀ k : Fin 11, 1 ≤ k.val → need (2 ^ k.val + 1) = k.val + 1 := by decide +kernel
theorem need_end {k : Int} (h0 : 1 ≤ k) (h : k ≤ 10) : needI (two k + 1) = k + 1 := by
  obtain ⟨n, rfl⟩ := Int.eq_ofNat_of_zero_le (show 0 ≤ k by omega)
  have := need_end_all ⟨n, by omega⟩ (by simp; omega)
  have e : two (n : Int) + 1 = ((2 ^ n + 1 : Nat) : Int) := by
    unfold two
    rw [Int.toNat_natCast]; omega
  unfold needI
  rw [e, if_neg (Int.not_lt.2 (Int.natCast_nonneg _)), Int.toNat_natCast, this]; rfl
theorem need_lt {n k : Nat} (h : n < 2 ^ k) (hk : 1 ≤ k) : need n ≤ k := by
  unfold need
  by_cases h0 : n = 0
  · subst h0
    have : Nat.log2 0 = 0 := by decide
    omega
  · have := (Nat.log2_lt h0 (k := k)).2 h
    omega
theorem needI_le {x k : Int} (h0 : 0 ≤ x) (h1 : x < two k) (hk : 1 ≤ k) : needI x ≤ k := by
  obtain ⟨n, rfl⟩ := Int.eq_ofNat_of_zero_le h0
  obtain ⟨j, rfl⟩ := Int.eq_ofNat_of_zero_le (show 0 ≤ k by omega)
  unfold two at h1
  rw [Int.toNat_natCast] at h1
  unfold needI
  rw [if_neg (by omega), Int.toNat_natCast]
  have := need_lt (n := n) (k := j) (by omega) (by omega)
  omega
theorem needI_pos {x : Int} (h0 : 0 ≤ x) : 1 ≤ needI x := by
  unfold needI
  rw [if_neg (by omega)]
  have := need_pos x.toNat
  omega
end Sx
end Go.Proofs.Ytegfcpdkehgdpaa
