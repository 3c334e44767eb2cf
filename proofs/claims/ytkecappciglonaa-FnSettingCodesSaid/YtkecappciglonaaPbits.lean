/- Plain facts on bits, numbers and bytes: no program. Conditions: those that each lemma names. -/
import Derived.Test.YtkecappciglonaaPlain
namespace Go.Proofs.Ytkecappciglonaa
namespace Sx

/-- The byte of a bit. -/
def dig (b : Bool) : UInt8 := if b then 49 else 48
def bitAt (hi : Bool) (w n i : Nat) : UInt8 := dig (n.testBit (if hi then w - 1 - i else i))
/-- CodeBits: the w bits of n, the lowest first, or the highest first. -/
def cbits (hi : Bool) (n w : Nat) : List UInt8 := (List.range w).map (bitAt hi w n)
def hiOf (o : Int) : Bool := decide (o = 1)
/-- The number of bits, the lowest first. -/
def numLow : List UInt8 → Nat
  | [] => 0
  | b :: r => (if b == 49 then 1 else 0) + 2 * numLow r
def numOf (hi : Bool) (l : List UInt8) : Nat := if hi then numLow l.reverse else numLow l

theorem cbits_length (hi : Bool) (n w : Nat) : (cbits hi n w).length = w := by simp [cbits]
theorem cbits_get (hi : Bool) (n w i : Nat) (h : i < w) : (cbits hi n w)[i]'(by rw [cbits_length]; exact h) = bitAt hi w n i := by simp [cbits]
theorem dig_bit (b : Bool) : isBit (dig b) = true := by cases b <;> rfl
theorem dig_one (b : Bool) : (dig b == 49) = b := by cases b <;> rfl
theorem cbits_all (hi : Bool) (n w : Nat) : (cbits hi n w).all isBit = true := by
  rw [List.all_eq_true]
  intro x hx
  simp only [cbits, List.mem_map] at hx
  obtain ⟨i, _, rfl⟩ := hx
  exact dig_bit _
theorem cbits_rev (n w : Nat) : cbits true n w = (cbits false n w).reverse := by
  apply List.ext_getElem
  · simp [cbits_length]
  · intro i h1 h2
    rw [List.getElem_reverse, cbits_get _ _ _ _ (by simpa [cbits_length] using h1), cbits_get _ _ _ _ (by simp [cbits_length] at h1 ⊢; omega)]
    simp [bitAt, cbits_length]
theorem range_snoc_map {α : Type} (f : Nat → α) (k : Nat) : (List.range (k + 1)).map f = (List.range k).map f ++ [f k] := by
  rw [List.range_succ, List.map_append]; rfl
theorem cbits_low_succ (n w : Nat) : cbits false n (w + 1) = cbits false n w ++ [dig (n.testBit w)] := by
  show (List.range (w + 1)).map (fun i => dig (n.testBit i)) = (List.range w).map (fun i => dig (n.testBit i)) ++ [dig (n.testBit w)]
  exact range_snoc_map _ _
theorem numLow_append (a b : List UInt8) : numLow (a ++ b) = numLow a + 2 ^ a.length * numLow b := by
  induction a with
  | nil => simp [numLow]
  | cons x a ih =>
    have e : 2 ^ (a.length + 1) * numLow b = 2 * (2 ^ a.length * numLow b) := by rw [Nat.pow_succ, Nat.mul_comm (2 ^ a.length) 2, Nat.mul_assoc]
    simp only [List.cons_append, numLow, ih, List.length_cons, e]; omega
theorem numLow_lt (l : List UInt8) : numLow l < 2 ^ l.length := by
  induction l with
  | nil => simp [numLow]
  | cons x l ih => simp only [numLow, List.length_cons, Nat.pow_succ]; split <;> omega
theorem numOf_lt (hi : Bool) (l : List UInt8) : numOf hi l < 2 ^ l.length := by
  unfold numOf; split
  · have := numLow_lt l.reverse; simpa using this
  · exact numLow_lt l
theorem testBit_div (n i : Nat) : (n / 2).testBit i = n.testBit (i + 1) := by rw [Nat.testBit_succ]
/-- The bits of n make n. -/
theorem numLow_cbits : ∀ (w n : Nat), n < 2 ^ w → numLow (cbits false n w) = n := by
  intro w
  induction w with
  | zero => intro n h; have : n = 0 := by simpa using h
            subst this; rfl
  | succ w ih =>
    intro n h
    rw [cbits_low_succ, numLow_append, cbits_length]
    have hm : cbits false n w = cbits false (n % 2 ^ w) w := by
      unfold cbits
      apply List.map_congr_left
      intro i hi
      have hi' : i < w := by simpa using hi
      simp only [bitAt, Bool.false_eq_true, if_false]
      rw [Nat.testBit_mod_two_pow]; simp [hi']
    rw [hm, ih _ (Nat.mod_lt _ (Nat.pow_pos (by omega)))]
    simp only [numLow, dig_one]
    have hp : 0 < 2 ^ w := Nat.pow_pos (by omega)
    have hd : n / 2 ^ w < 2 := by rw [Nat.div_lt_iff_lt_mul hp, Nat.mul_comm, ← Nat.pow_succ]; exact h
    have ht : n.testBit w = decide (n / 2 ^ w = 1) := by
      rw [Nat.testBit_eq_decide_div_mod_eq]
      have : n / 2 ^ w % 2 = n / 2 ^ w := Nat.mod_eq_of_lt hd
      rw [this]
    rw [ht]
    have := Nat.div_add_mod n (2 ^ w)
    have h01 : n / 2 ^ w = 0 ∨ n / 2 ^ w = 1 := by generalize n / 2 ^ w = q at hd ⊢; omega
    rcases h01 with h0 | h0
    · rw [h0] at this ⊢; simp at this ⊢; exact this
    · rw [h0] at this ⊢; simp at this ⊢; omega
theorem numOf_cbits (hi : Bool) (n w : Nat) (h : n < 2 ^ w) : numOf hi (cbits hi n w) = n := by
  cases hi
  · exact numLow_cbits w n h
  · simp only [numOf, cbits_rev, List.reverse_reverse]; exact numLow_cbits w n h
theorem numLow_testBit (l : List UInt8) : ∀ i, (numLow l).testBit i = (match l[i]? with | some b => b == 49 | none => false) := by
  induction l with
  | nil => intro i; simp [numLow]
  | cons x l ih =>
    intro i
    cases i with
    | zero => simp only [numLow, Nat.testBit_zero, List.getElem?_cons_zero]; cases h : (x == 49) <;> simp <;> omega
    | succ i =>
      rw [Nat.testBit_succ, List.getElem?_cons_succ, ← ih i]
      congr 1
      simp only [numLow]; split <;> omega
/-- Bits are those of the number that they make. -/
theorem cbits_numLow (l : List UInt8) (h : l.all isBit = true) : cbits false (numLow l) l.length = l := by
  apply List.ext_getElem
  · exact cbits_length _ _ _
  · intro i h1 h2
    rw [cbits_get _ _ _ _ h2]
    simp only [bitAt, Bool.false_eq_true, if_false, numLow_testBit, List.getElem?_eq_getElem h2]
    have hb : isBit l[i] = true := (List.all_eq_true.1 h) _ (List.getElem_mem _)
    simp only [isBit, Bool.or_eq_true, beq_iff_eq] at hb
    rcases hb with e | e <;> rw [e] <;> rfl
theorem all_reverse (l : List UInt8) (p : UInt8 → Bool) : l.reverse.all p = l.all p := List.all_reverse
theorem cbits_numOf (hi : Bool) (l : List UInt8) (h : l.all isBit = true) : cbits hi (numOf hi l) l.length = l := by
  cases hi
  · exact cbits_numLow l h
  · simp only [numOf, if_true, cbits_rev]
    have := cbits_numLow l.reverse (by rw [all_reverse]; exact h)
    rw [List.length_reverse] at this
    rw [this, List.reverse_reverse]
theorem numOf_rev (hi : Bool) (l : List UInt8) : numOf (!hi) l.reverse = numOf hi l := by
  cases hi <;> simp [numOf]
theorem cbits_not (hi : Bool) (n w : Nat) : cbits (!hi) n w = (cbits hi n w).reverse := by
  cases hi
  · exact cbits_rev n w
  · rw [cbits_rev, List.reverse_reverse]; rfl
theorem and_pow (n j : Nat) : n &&& 2 ^ j = if n.testBit j then 2 ^ j else 0 := by
  apply Nat.eq_of_testBit_eq
  intro i
  rw [Nat.testBit_and, Nat.testBit_two_pow]
  by_cases h : j = i
  · subst h; cases hb : n.testBit j <;> simp
  · cases hb : n.testBit j <;> simp [h]
end Sx
end Go.Proofs.Ytkecappciglonaa
