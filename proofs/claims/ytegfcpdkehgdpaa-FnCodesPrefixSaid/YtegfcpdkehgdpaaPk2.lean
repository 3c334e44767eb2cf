/- Plain facts on the codes of a setting: no program. Conditions: those that each lemma names. -/
import Derived.Test.YtegfcpdkehgdpaaK5
namespace Go.Proofs.Ytegfcpdkehgdpaa
namespace Sx
theorem two_step {a b : Int} (h0 : 0 ≤ a) (h : a + 2 ≤ b) : 4 * two a ≤ two b := by
  obtain ⟨x, rfl⟩ := Int.eq_ofNat_of_zero_le h0
  obtain ⟨y, rfl⟩ := Int.eq_ofNat_of_zero_le (show 0 ≤ b by omega)
  unfold two
  rw [Int.toNat_natCast, Int.toNat_natCast]
  have h1 : (2 : Nat) ^ (x + 2) ≤ 2 ^ y := Nat.pow_le_pow_right (by omega) (by omega)
  rw [Nat.pow_add] at h1
  omega
theorem two_byte {l : Int} (h : l ≤ 8) : two l ≤ 256 := two_le 8 h
end Sx
end Go.Proofs.Ytegfcpdkehgdpaa
