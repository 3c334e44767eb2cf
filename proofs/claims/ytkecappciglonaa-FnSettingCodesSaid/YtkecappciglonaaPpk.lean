/- Plain facts on bits put into bytes: no program. Conditions: those that each lemma names. -/
import Derived.Test.YtkecappciglonaaPnum
import Derived.Test.YtkecappciglonaaPun
namespace Go.Proofs.Ytkecappciglonaa
namespace Sx
/-- The j-th eight bits, with zeros behind them. -/
def chunk (l : List UInt8) (j : Nat) : List UInt8 := (l.drop (8 * j) ++ List.replicate 8 48).take 8
theorem chunk_length (l : List UInt8) (j : Nat) : (chunk l j).length = 8 := by simp [chunk]
def packN (hi : Bool) (l : List UInt8) (k : Nat) : List UInt8 := (List.range k).map fun j => UInt8.ofNat (numOf hi (chunk l j))
def packL (hi : Bool) (l : List UInt8) : List UInt8 := packN hi l ((l.length + 7) / 8)
theorem packN_length (hi : Bool) (l : List UInt8) (k : Nat) : (packN hi l k).length = k := by simp [packN]
theorem packN_succ (hi : Bool) (l : List UInt8) (k : Nat) : packN hi l (k + 1) = packN hi l k ++ [UInt8.ofNat (numOf hi (chunk l k))] := range_snoc_map _ _
theorem packL_length (hi : Bool) (l : List UInt8) : (packL hi l).length = (l.length + 7) / 8 := packN_length _ _ _
theorem chunk_get {l : List UInt8} {j i : Nat} (hi : i < 8) (h : 8 * j + i < l.length) : (chunk l j)[i]'(by rw [chunk_length]; exact hi) = l[8 * j + i] := by
  simp only [chunk, List.getElem_take]
  rw [List.getElem_append_left (by rw [List.length_drop]; omega), List.getElem_drop]
theorem chunk_zero {l : List UInt8} {j i : Nat} (hi : i < 8) (h : ¬ 8 * j + i < l.length) : (chunk l j)[i]'(by rw [chunk_length]; exact hi) = 48 := by
  simp only [chunk, List.getElem_take]
  rw [List.getElem_append_right (by rw [List.length_drop]; omega), List.getElem_replicate]
/-- Where zeros alone are left the sum stays. -/
theorem psum_pad (hi : Bool) (l : List UInt8) (j : Nat) : ∀ (d i : Nat), i + d = 8 → l.length - 8 * j ≤ i → psum hi (chunk l j) i = psum hi (chunk l j) 8 := by
  intro d
  induction d with
  | zero => intro i h _; have : i = 8 := by omega
            rw [this]
  | succ d ih =>
    intro i h hl
    rw [← ih (i + 1) (by omega) (by omega)]
    have hi8 : i < (chunk l j).length := by rw [chunk_length]; omega
    refine (psum_other hi8 ?_).symm
    rw [chunk_zero (by omega) (by omega)]
    decide
theorem psum_num (hi : Bool) (l : List UInt8) (j : Nat) (i : Nat) (h8 : i ≤ 8) (h : i = 8 ∨ l.length - 8 * j ≤ i) : psum hi (chunk l j) i = numOf hi (chunk l j) := by
  have he := psum_end hi (chunk l j)
  rw [chunk_length] at he
  rcases h with rfl | h
  · exact he
  · rw [psum_pad hi l j (8 - i) i (by omega) h, he]
theorem num_lt (hi : Bool) (l : List UInt8) (j : Nat) : numOf hi (chunk l j) < 256 := by
  have := numOf_lt hi (chunk l j)
  rw [chunk_length] at this
  simpa using this
theorem byte_num {n : Nat} (h : n < 256) : ((UInt8.ofNat n).toNat : Int) = n := by
  rw [UInt8.toNat_ofNat']; omega
/-- The bits and as few zeros as make whole bytes. -/
def padL (l : List UInt8) : List UInt8 := l ++ List.replicate ((8 - l.length % 8) % 8) 48
theorem padL_length (l : List UInt8) : (padL l).length = 8 * ((l.length + 7) / 8) := by simp only [padL, List.length_append, List.length_replicate]; omega
theorem padL_all {l : List UInt8} (h : l.all isBit = true) : (padL l).all isBit = true := by
  simp only [padL, List.all_append, h, Bool.true_and, List.all_replicate]
  split <;> rfl
theorem padL_chunk (l : List UInt8) (j : Nat) (h : j < (l.length + 7) / 8) : ((padL l).drop (8 * j)).take 8 = chunk l j := by
  apply List.ext_getElem
  · rw [List.length_take, List.length_drop, padL_length, chunk_length]; omega
  · intro i h1 h2
    rw [chunk_length] at h2
    rw [List.getElem_take, List.getElem_drop]
    by_cases hl : 8 * j + i < l.length
    · rw [chunk_get h2 hl]
      simp only [padL]
      rw [List.getElem_append_left hl]
    · rw [chunk_zero h2 hl]
      simp only [padL]
      rw [List.getElem_append_right (by omega), List.getElem_replicate]
theorem padL_self {l : List UInt8} (h : l.length % 8 = 0) : padL l = l := by simp [padL, h]
/-- n times a list. -/
def rep (n : Nat) (l : List UInt8) : List UInt8 := (List.replicate n l).flatten
theorem rep_zero (l : List UInt8) : rep 0 l = [] := rfl
theorem rep_succ (n : Nat) (l : List UInt8) : rep (n + 1) l = l ++ rep n l := by simp [rep, List.replicate_succ]
theorem rep_length (n : Nat) (l : List UInt8) : (rep n l).length = n * l.length := by
  induction n with
  | zero => simp [rep]
  | succ n ih => rw [rep_succ, List.length_append, ih, Nat.add_mul]; omega
theorem rep_double (n : Nat) (l : List UInt8) : rep n (l ++ l) = rep (2 * n) l := by
  induction n with
  | zero => rfl
  | succ n ih => rw [rep_succ, ih, show 2 * (n + 1) = 2 * n + 1 + 1 from by omega, rep_succ, rep_succ, List.append_assoc]
theorem rep_one (n : Nat) (b : UInt8) : rep n [b] = List.replicate n b := by
  induction n with
  | zero => rfl
  | succ n ih => rw [rep_succ, ih, List.replicate_succ]; rfl
theorem rep_odd {n : Nat} (l : List UInt8) (h : n % 2 = 1) : l ++ rep (n / 2) (l ++ l) = rep n l := by
  rw [rep_double, ← rep_succ]; congr 1; omega
theorem rep_even {n : Nat} (l : List UInt8) (h : n % 2 = 0) : rep (n / 2) (l ++ l) = rep n l := by
  rw [rep_double]; congr 1; omega
end Sx
end Go.Proofs.Ytkecappciglonaa
