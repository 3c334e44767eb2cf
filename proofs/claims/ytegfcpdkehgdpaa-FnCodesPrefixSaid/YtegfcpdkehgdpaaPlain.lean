/- Plain facts on numbers and lists: no program. Conditions: none beyond what each lemma says. -/
import Derived.Lib.BitFns
namespace Go.Proofs.Ytegfcpdkehgdpaa
namespace Sx
/-- The number of binary digits, 1 for 0. -/
def need (n : Nat) : Nat := n.log2 + 1
theorem need_small {n : Nat} (h : n ≤ 1) : need n = 1 := by
  unfold need; rw [Nat.log2_def, if_neg (by omega)]
theorem need_half {n : Nat} (h : 2 ≤ n) : need n = need (n / 2) + 1 := by
  unfold need; rw [Nat.log2_def n, if_pos h]
/-- BitsNeeded. -/
def needI (n : Int) : Int := if n < 0 then -1 else (need n.toNat : Int)
theorem need_pos (n : Nat) : 1 ≤ need n := by unfold need; omega
theorem need_le64 {n : Nat} (h : n < 18446744073709551616) : need n ≤ 64 := by
  unfold need
  by_cases h0 : n = 0
  · subst h0; decide
  · have := (Nat.log2_lt h0 (k := 64)).2 h; omega
theorem bitLen_need : ∀ (k n : Nat), n < 2 ^ k → k ≤ 64 → max 1 (Lib.bitLen n) = need n := by
  intro k
  induction k with
  | zero => intro n h _; have : n = 0 := by omega
            subst this; decide
  | succ k ih =>
    intro n h hk
    by_cases h1 : n ≤ 1
    · have : n = 0 ∨ n = 1 := by omega
      rcases this with rfl | rfl <;> decide
    · have hp : (2 : Nat) ^ (k + 1) ≤ 2 ^ 64 := Nat.pow_le_pow_right (by omega) hk
      rw [need_half (by omega), Lib.bitLen_half n (by omega) (by omega), ← ih (n / 2) (by rw [Nat.pow_succ] at h; omega) (by omega)]
      have : 1 ≤ Lib.bitLen (n / 2) := by rw [Lib.bitLen_half (n / 2) (by omega) (by omega)]; omega
      omega

/-! Settings, literals, bits. -/
def two (n : Int) : Int := ((2 ^ n.toNat : Nat) : Int)
def ordOK (o : Int) : Bool := decide (o = 0 ∨ o = 1)
def setOK (o l m : Int) : Bool := decide ((o = 0 ∨ o = 1) ∧ 1 ≤ l ∧ l ≤ 8 ∧ l + 2 ≤ m ∧ m ≤ 10)
def clearI (o l m : Int) : Int := if setOK o l m = true then two l else -1
def endI (o l m : Int) : Int := if setOK o l m = true then two l + 1 else -1
def lastI (o l m : Int) : Int := if setOK o l m = true then two m - 1 else -1
def isBit (b : UInt8) : Bool := b == 48 || b == 49
def isLit (l : Int) (b : UInt8) : Bool := decide ((b.toNat : Int) < two l)
def bitsValid (s : ByteArray) : Bool := decide (s.size ≤ 32000) && s.data.toList.all isBit
/-- All bytes are literals. -/
def lits (l : Int) (s : ByteArray) : Bool := s.data.toList.all (isLit l)
def fits (o l m : Int) (s : ByteArray) : Bool := setOK o l m && (decide (s.size ≤ 2000) && s.data.toList.all (isLit l))

theorem two_pos (n : Int) : 1 ≤ two n := by
  unfold two
  have := Nat.pow_pos (n := n.toNat) (show 0 < 2 by omega)
  omega
theorem two_le {a : Int} (k : Nat) (h : a ≤ k) : two a ≤ ((2 ^ k : Nat) : Int) := by
  unfold two
  have : (2 : Nat) ^ a.toNat ≤ 2 ^ k := Nat.pow_le_pow_right (by omega) (by omega)
  omega

theorem len_bytes (s : ByteArray) : s.data.toList.length = s.size := by rw [Array.length_toList]; rfl
theorem all_bad {s : ByteArray} {p : UInt8 → Bool} {k : Nat} (hk : k < s.size) (hp : p s[k] = false) : s.data.toList.all p = false := by
  rw [List.all_eq_false]
  exact ⟨s[k], by rw [show s[k] = s.data.toList[k]'(by rw [len_bytes]; exact hk) from rfl]; exact List.getElem_mem _, by simp [hp]⟩
end Sx
end Go.Proofs.Ytegfcpdkehgdpaa
