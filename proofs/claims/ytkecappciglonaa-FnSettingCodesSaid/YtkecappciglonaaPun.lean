/- Plain facts on the bits of all bytes of a string: no program. Conditions: those that each lemma names. -/
import Derived.Test.YtkecappciglonaaBytes
import Derived.Test.YtkecappciglonaaPbits
namespace Go.Proofs.Ytkecappciglonaa
namespace Sx
/-- The bits of all bytes. -/
def unpackL (hi : Bool) (l : List UInt8) : List UInt8 := l.flatMap fun b => cbits hi b.toNat 8
theorem unpackL_append (hi : Bool) (a b : List UInt8) : unpackL hi (a ++ b) = unpackL hi a ++ unpackL hi b := List.flatMap_append
theorem unpackL_one (hi : Bool) (b : UInt8) : unpackL hi [b] = cbits hi b.toNat 8 := by simp [unpackL]
theorem unpackL_length (hi : Bool) (l : List UInt8) : (unpackL hi l).length = 8 * l.length := by
  induction l with
  | nil => rfl
  | cons b l ih => rw [show b :: l = [b] ++ l from rfl, unpackL_append, List.length_append, ih, unpackL_one, cbits_length, List.length_append]; simp; omega
theorem unpackL_snoc (hi : Bool) (s : ByteArray) (k : Nat) (h : k < s.size) : unpackL hi (s.data.toList.take (k + 1)) = unpackL hi (s.data.toList.take k) ++ cbits hi s[k].toNat 8 := by
  rw [take_snoc s k h, unpackL_append, unpackL_one]
theorem unpackL_all (hi : Bool) (l : List UInt8) : (unpackL hi l).all isBit = true := by
  rw [unpackL, List.all_eq_true]
  intro x hx
  rw [List.mem_flatMap] at hx
  obtain ⟨b, _, hb⟩ := hx
  exact (List.all_eq_true.1 (cbits_all hi b.toNat 8)) x hb
theorem unpackL_get (hi : Bool) : ∀ (l : List UInt8) (n : Nat) (h : n < (unpackL hi l).length), (unpackL hi l)[n] = bitAt hi 8 (l[n / 8]'(by rw [unpackL_length] at h; omega)).toNat (n % 8)
  | [], n, h => by simp [unpackL] at h
  | b :: l, n, h => by
    have e : unpackL hi (b :: l) = cbits hi b.toNat 8 ++ unpackL hi l := by rw [show b :: l = [b] ++ l from rfl, unpackL_append, unpackL_one]
    by_cases hn : n < 8
    · have h1 : n / 8 = 0 := by omega
      have h2 : n % 8 = n := by omega
      simp only [e, h1, h2, List.getElem_cons_zero]
      rw [List.getElem_append_left (by rw [cbits_length]; exact hn), cbits_get _ _ _ _ hn]
    · have h' : n - 8 < (unpackL hi l).length := by rw [unpackL_length] at h ⊢; simp at h; omega
      have ih := unpackL_get hi l (n - 8) h'
      have h1 : n / 8 = (n - 8) / 8 + 1 := by omega
      have h2 : (n - 8) % 8 = n % 8 := by omega
      simp only [e, h1, List.getElem_cons_succ]
      rw [List.getElem_append_right (by rw [cbits_length]; omega)]
      simp only [cbits_length]
      rw [ih, h2]
def streamOK (o : Int) (s : ByteArray) : Bool := ordOK o && decide (s.size ≤ 4000)
def ubS (o : Int) (s : ByteArray) : ByteArray := if streamOK o s = true then str (unpackL (hiOf o) s.data.toList) else str []
theorem ub_yes {o : Int} {s : ByteArray} (h : streamOK o s = true) : ubS o s = str (unpackL (hiOf o) s.data.toList) := if_pos h
theorem ub_no {o : Int} {s : ByteArray} (h : streamOK o s = false) : ubS o s = str [] := if_neg (by simp [h])
theorem stream_ord {o : Int} {s : ByteArray} (h : ordOK o = false) : streamOK o s = false := by simp [streamOK, h]
theorem stream_len {o : Int} {s : ByteArray} (h : ¬ s.size ≤ 4000) : streamOK o s = false := by simp [streamOK, h]
theorem stream_mk {o : Int} {s : ByteArray} (h : ordOK o = true) (h1 : s.size ≤ 4000) : streamOK o s = true := by simp [streamOK, h, h1]
theorem stream_of {o : Int} {s : ByteArray} (h : streamOK o s = true) : ordOK o = true ∧ s.size ≤ 4000 := by simpa [streamOK] using h
end Sx
end Go.Proofs.Ytkecappciglonaa
