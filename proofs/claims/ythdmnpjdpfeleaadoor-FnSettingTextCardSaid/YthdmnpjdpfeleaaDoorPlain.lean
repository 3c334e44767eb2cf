/- Plain facts on numbers and lists: no program. Conditions: none beyond what each lemma says. -/
import Derived.Lib.BitFns
namespace Go.Proofs.YthdmnpjdpfeleaaDoor
namespace Sx
/-- The number of binary digits, 1 for 0. -/
def need (n : Nat) : Nat := n.log2 + 1
theorem need_small {n : Nat} (h : n ≤ 1) : need n = 1 := by
  unfold need; rw [Nat.log2_def, if_neg (by omega)]
theorem need_half {n : Nat} (h : 2 ≤ n) : need n = need (n / 2) + 1 := by
  unfold need; rw [Nat.log2_def n, if_pos h]
/-- BitsNeeded. -/
def needI (n : Int) : Int := if n < 0 then -1 else (need n.toNat : Int)
theorem need_pos (n : Nat) : 1 ≤ need n := by unfold need; omega
theorem need_le64 {n : Nat} (h : n < 18446744073709551616) : need n ≤ 64 := by
  unfold need
  by_cases h0 : n = 0
  · subst h0; decide
  · have := (Nat.log2_lt h0 (k := 64)).2 h; omega
theorem bitLen_need : ∀ (k n : Nat), n < 2 ^ k → k ≤ 64 → max 1 (Lib.bitLen n) = need n := by
  intro k
  induction k with
  | zero => intro n h _; have : n = 0 := by omega
            subst this; decide
  | succ k ih =>
    intro n h hk
    by_cases h1 : n ≤ 1
    · have : n = 0 ∨ n = 1 := by omega
      rcases this with rfl | rfl <;> decide
    · have hp : (2 : Nat) ^ (k + 1) ≤ 2 ^ 64 := Nat.pow_le_pow_right (by omega) hk
      rw [need_half (by omega), Lib.bitLen_half n (by omega) (by omega), ← ih (n / 2) (by rw [Nat.pow_succ] at h; omega) (by omega)]
      have : 1 ≤ Lib.bitLen (n / 2) := by rw [Lib.bitLen_half (n / 2) (by omega) (by omega)]; omega
      omega

/-! Settings, literals, bits. -/
def two (n : Int) : Int := ((2 ^ n.toNat : Nat) : Int)
def ordOK (o : Int) : Bool := decide (o = 0 ∨ o = 1)
def setOK (o l m : Int) : Bool := decide ((o = 0 ∨ o = 1) ∧ 1 ≤ l ∧ l ≤ 8 ∧ l + 2 ≤ m ∧ m ≤ 10)
def clearI (o l m : Int) : Int := if setOK o l m = true then two l else -1
def endI (o l m : Int) : Int := if setOK o l m = true then two l + 1 else -1
def lastI (o l m : Int) : Int := if setOK o l m = true then two m - 1 else -1
def isBit (b : UInt8) : Bool := b == 48 || b == 49
def isLit (l : Int) (b : UInt8) : Bool := decide ((b.toNat : Int) < two l)
def bitsValid (s : ByteArray) : Bool := decide (s.size ≤ 32000) && s.data.toList.all isBit
/-- All bytes are literals. -/
def lits (l : Int) (s : ByteArray) : Bool := s.data.toList.all (isLit l)
def fits (o l m : Int) (s : ByteArray) : Bool := setOK o l m && (decide (s.size ≤ 2000) && s.data.toList.all (isLit l))

theorem two_pos (n : Int) : 1 ≤ two n := by
  unfold two
  have := Nat.pow_pos (n := n.toNat) (show 0 < 2 by omega)
  omega
theorem two_le {a : Int} (k : Nat) (h : a ≤ k) : two a ≤ ((2 ^ k : Nat) : Int) := by
  unfold two
  have : (2 : Nat) ^ a.toNat ≤ 2 ^ k := Nat.pow_le_pow_right (by omega) (by omega)
  omega

theorem take_snoc (s : ByteArray) (k : Nat) (h : k < s.size) : s.data.toList.take (k + 1) = s.data.toList.take k ++ [s[k]] := by
  rw [List.take_succ_eq_append_getElem (by simpa using h)]; rfl
theorem len_bytes (s : ByteArray) : s.data.toList.length = s.size := by rw [Array.length_toList]; rfl
theorem all_step {s : ByteArray} {p : UInt8 → Bool} {k : Nat} (hk : k < s.size) (h : (s.data.toList.take k).all p = true) (hp : p s[k] = true) : (s.data.toList.take (k + 1)).all p = true := by
  rw [take_snoc s k hk, List.all_append, h]; simp [hp]
theorem all_done {s : ByteArray} {p : UInt8 → Bool} {k : Nat} (hk : ¬ k < s.size) (h : (s.data.toList.take k).all p = true) : s.data.toList.all p = true := by
  rwa [List.take_of_length_le (by rw [len_bytes]; omega)] at h
theorem isBit_yes {b : UInt8} (h : b.toNat = 48 ∨ b.toNat = 49) : isBit b = true := by
  have : b = 48 ∨ b = 49 := by rcases h with h | h; exact .inl (UInt8.toNat_inj.1 h); exact .inr (UInt8.toNat_inj.1 h)
  rcases this with rfl | rfl <;> rfl
theorem isBit_no {b : UInt8} (h1 : b.toNat ≠ 48) (h2 : b.toNat ≠ 49) : isBit b = false := by
  unfold isBit
  have e1 : b ≠ 48 := fun e => h1 (by rw [e]; rfl)
  have e2 : b ≠ 49 := fun e => h2 (by rw [e]; rfl)
  simp [e1, e2]
theorem bitsValid_len {s : ByteArray} (h : ¬ s.size ≤ 32000) : bitsValid s = false := by simp [bitsValid, h]
theorem bitsValid_bad {s : ByteArray} (h : s.data.toList.all isBit = false) : bitsValid s = false := by simp [bitsValid, h]
theorem bitsValid_rest {s : ByteArray} (h : s.data.toList.all isBit = true) : bitsValid s = decide (s.size ≤ 32000) := by simp [bitsValid, h]
theorem byte_ne {b : UInt8} (k : Int) (h : (b.toNat : Int) ≠ k) : ((b.toNat : Int) != k) = true := by
  rw [bne_iff_ne]; exact h
theorem byte_eq {b : UInt8} (k : Int) (h : (b.toNat : Int) = k) : ((b.toNat : Int) != k) = false := by
  rw [h]; simp
end Sx
end Go.Proofs.YthdmnpjdpfeleaaDoor
