/- Plain facts on the sums that the two number readers keep: no program. Conditions: those that each lemma names. -/
import Derived.Test.YtkecappciglonaaPbits
namespace Go.Proofs.Ytkecappciglonaa
namespace Sx
/-- impl.bitsNumber after k rounds. -/
def psum (hi : Bool) (l : List UInt8) (k : Nat) : Nat := if hi then numLow (l.take k).reverse * 2 ^ (l.length - k) else numLow (l.take k)
theorem take_snoc' (l : List UInt8) (k : Nat) (h : k < l.length) : l.take (k + 1) = l.take k ++ [l[k]] := List.take_succ_eq_append_getElem h
theorem psum_zero (hi : Bool) (l : List UInt8) : psum hi l 0 = 0 := by cases hi <;> simp [psum, numLow]
theorem psum_end (hi : Bool) (l : List UInt8) : psum hi l l.length = numOf hi l := by cases hi <;> simp [psum, numOf]
theorem psum_one {hi : Bool} {l : List UInt8} {k : Nat} (h : k < l.length) (hb : l[k] = 49) : psum hi l (k + 1) = psum hi l k + 2 ^ (if hi then l.length - 1 - k else k) := by
  cases hi
  · simp only [psum, Bool.false_eq_true, if_false, take_snoc' l k h, numLow_append, List.length_take, Nat.min_eq_left (Nat.le_of_lt h), hb, numLow]
    simp
  · simp only [psum, if_true, take_snoc' l k h, List.reverse_append, List.reverse_singleton, List.singleton_append, numLow, hb]
    have e : 2 ^ (l.length - k) = 2 * 2 ^ (l.length - (k + 1)) := by rw [← Nat.pow_succ']; congr 1; omega
    have e2 : l.length - 1 - k = l.length - (k + 1) := by omega
    rw [e, e2, Nat.add_mul, Nat.mul_comm 2 (numLow _), Nat.mul_assoc]
    simp; omega
theorem psum_other {hi : Bool} {l : List UInt8} {k : Nat} (h : k < l.length) (hb : l[k] ≠ 49) : psum hi l (k + 1) = psum hi l k := by
  have hf : (l[k] == 49) = false := by simpa using hb
  cases hi
  · simp only [psum, Bool.false_eq_true, if_false, take_snoc' l k h, numLow_append, hf, numLow]
    simp
  · simp only [psum, if_true, take_snoc' l k h, List.reverse_append, List.reverse_singleton, List.singleton_append, numLow, hf]
    have e : 2 ^ (l.length - k) = 2 * 2 ^ (l.length - (k + 1)) := by rw [← Nat.pow_succ']; congr 1; omega
    rw [e, Nat.add_mul, Nat.mul_comm 2 (numLow _), Nat.mul_assoc]
    simp
theorem psum_lt (hi : Bool) (l : List UInt8) (k : Nat) (hk : k ≤ l.length) : psum hi l k < 2 ^ l.length := by
  cases hi
  · simp only [psum, Bool.false_eq_true, if_false]
    refine Nat.lt_of_lt_of_le (numLow_lt _) (Nat.pow_le_pow_right (by omega) ?_)
    rw [List.length_take]; omega
  · simp only [psum, if_true]
    have h1 := numLow_lt (l.take k).reverse
    rw [List.length_reverse, List.length_take, Nat.min_eq_left hk] at h1
    have h2 : 2 ^ l.length = 2 ^ k * 2 ^ (l.length - k) := by rw [← Nat.pow_add]; congr 1; omega
    rw [h2]
    exact Nat.mul_lt_mul_of_pos_right h1 (Nat.pow_pos (by omega))
theorem pow_le_1024 {k : Nat} (h : k ≤ 10) : 2 ^ k ≤ 1024 := by
  have : (2 : Nat) ^ k ≤ 2 ^ 10 := Nat.pow_le_pow_right (by omega) h
  simpa using this
/-- spec.l1Number after k rounds over the list in the order of reading. -/
def hsum (l : List UInt8) (k : Nat) : Nat := numLow (l.take k).reverse
theorem hsum_zero (l : List UInt8) : hsum l 0 = 0 := by simp [hsum, numLow]
theorem hsum_succ {l : List UInt8} {k : Nat} (h : k < l.length) : hsum l (k + 1) = 2 * hsum l k + (if l[k] == 49 then 1 else 0) := by
  simp only [hsum, take_snoc' l k h, List.reverse_append, List.reverse_singleton, List.singleton_append, numLow]; omega
theorem hsum_lt {l : List UInt8} {k : Nat} (hk : k ≤ l.length) : hsum l k < 2 ^ l.length := by
  have h1 := numLow_lt (l.take k).reverse
  rw [List.length_reverse, List.length_take, Nat.min_eq_left hk] at h1
  exact Nat.lt_of_lt_of_le h1 (Nat.pow_le_pow_right (by omega) hk)
theorem hsum_high (l : List UInt8) : hsum l l.length = numOf true l := by simp [hsum, numOf]
theorem hsum_low (l : List UInt8) : hsum l.reverse l.length = numOf false l := by
  have : l.reverse.take l.length = l.reverse := List.take_of_length_le (by simp)
  simp [hsum, numOf, this]
end Sx
end Go.Proofs.Ytkecappciglonaa
