/- Plain facts on hexadecimal digits: no program. Conditions: those that each lemma names. -/
import Derived.Test.YtkecappciglonaaBytes
import Derived.Lib.Bytealg
namespace Go.Proofs.Ytkecappciglonaa
namespace Sx
def hexDigits : List UInt8 := [48, 49, 50, 51, 52, 53, 54, 55, 56, 57, 97, 98, 99, 100, 101, 102]
def hexd (n : Nat) : UInt8 := hexDigits.getD n 48
/-- The value of a hexadecimal digit, or -1. -/
def hexv (c : UInt8) : Int := Lib.indexByte hexDigits c
theorem hexv_all : ∀ c : UInt8, -1 ≤ hexv c ∧ hexv c ≤ 15 := by
  intro c
  have : ∀ n : Fin 256, -1 ≤ hexv (UInt8.ofNat n.val) ∧ hexv (UInt8.ofNat n.val) ≤ 15 := by decide +kernel
  have h := this ⟨c.toNat, c.toNat_lt⟩
  simpa using h
theorem hexv_hexd : ∀ n : Fin 16, hexv (hexd n.val) = n.val := by decide +kernel
theorem hexd_hexv : ∀ c : UInt8, 0 ≤ hexv c → hexd (hexv c).toNat = c := by
  intro c
  have : ∀ n : Fin 256, 0 ≤ hexv (UInt8.ofNat n.val) → hexd (hexv (UInt8.ofNat n.val)).toNat = UInt8.ofNat n.val := by decide +kernel
  have h := this ⟨c.toNat, c.toNat_lt⟩
  simpa using h
/-- FormatHex. -/
def fhex (l : List UInt8) : List UInt8 := l.flatMap fun b => [hexd (b.toNat / 16), hexd (b.toNat % 16)]
theorem fhex_append (a b : List UInt8) : fhex (a ++ b) = fhex a ++ fhex b := List.flatMap_append
theorem fhex_one (b : UInt8) : fhex [b] = [hexd (b.toNat / 16), hexd (b.toNat % 16)] := by simp [fhex]
theorem fhex_length (l : List UInt8) : (fhex l).length = 2 * l.length := by
  induction l with
  | nil => rfl
  | cons b l ih => rw [show b :: l = [b] ++ l from rfl, fhex_append, List.length_append, ih, fhex_one, List.length_append]; simp; omega
def fhexS (s : ByteArray) : ByteArray := if s.size ≤ 4000 then str (fhex s.data.toList) else str []
theorem fhexS_yes {s : ByteArray} (h : s.size ≤ 4000) : fhexS s = str (fhex s.data.toList) := if_pos h
theorem fhexS_no {s : ByteArray} (h : ¬ s.size ≤ 4000) : fhexS s = str [] := if_neg h
theorem fhex_snoc (s : ByteArray) (k : Nat) (h : k < s.size) : fhex (s.data.toList.take (k + 1)) = fhex (s.data.toList.take k) ++ [hexd (s[k].toNat / 16), hexd (s[k].toNat % 16)] := by
  rw [take_snoc s k h, fhex_append, fhex_one]
/-- ParseHex. -/
def hhi (l : List UInt8) (j : Nat) : Int := hexv (l.getD (2 * j) 0)
def hlo (l : List UInt8) (j : Nat) : Int := hexv (l.getD (2 * j + 1) 0)
def hgood (l : List UInt8) (k : Nat) : Bool := (List.range k).all fun j => decide (0 ≤ hhi l j) && decide (0 ≤ hlo l j)
def hout (l : List UInt8) (k : Nat) : List UInt8 := (List.range k).map fun j => UInt8.ofNat (16 * hhi l j + hlo l j).toNat
theorem hout_length (l : List UInt8) (k : Nat) : (hout l k).length = k := by simp [hout]
theorem hout_succ (l : List UInt8) (k : Nat) : hout l (k + 1) = hout l k ++ [UInt8.ofNat (16 * hhi l k + hlo l k).toNat] := by
  simp [hout, List.range_succ]
theorem hgood_succ {l : List UInt8} {k : Nat} (h : hgood l k = true) (h1 : 0 ≤ hhi l k) (h2 : 0 ≤ hlo l k) : hgood l (k + 1) = true := by
  simp only [hgood, List.range_succ, List.all_append, Bool.and_eq_true] at h ⊢
  exact ⟨h, by simp [h1, h2]⟩
theorem hgood_bad {l : List UInt8} {k m : Nat} (hk : k < m) (h : ¬ (0 ≤ hhi l k ∧ 0 ≤ hlo l k)) : hgood l m = false := by
  rw [hgood, List.all_eq_false]
  exact ⟨k, by simpa using hk, by simpa using h⟩
def phOK (s : ByteArray) : Bool := decide (s.size % 2 = 0) && (decide (s.size ≤ 8000) && hgood s.data.toList (s.size / 2))
def phS (s : ByteArray) : ByteArray := if phOK s = true then str (hout s.data.toList (s.size / 2)) else str []
theorem ph_yes {s : ByteArray} (h : phOK s = true) : phS s = str (hout s.data.toList (s.size / 2)) := if_pos h
theorem ph_no {s : ByteArray} (h : phOK s = false) : phS s = str [] := if_neg (by simp [h])
theorem ph_mk {s : ByteArray} (h : s.size % 2 = 0) (h1 : s.size ≤ 8000) (h2 : hgood s.data.toList (s.size / 2) = true) : phOK s = true := by simp [phOK, h, h1, h2]
theorem ph_odd {s : ByteArray} (h : ¬ s.size % 2 = 0) : phOK s = false := by simp [phOK, h]
theorem ph_long {s : ByteArray} (h : ¬ s.size ≤ 8000) : phOK s = false := by simp [phOK, h]
theorem ph_bad {s : ByteArray} (h : hgood s.data.toList (s.size / 2) = false) : phOK s = false := by simp [phOK, h]
theorem getD_at (s : ByteArray) (k : Nat) (h : k < s.size) : s.data.toList.getD k 0 = s[k] := by
  rw [List.getD_eq_getElem?_getD, List.getElem?_eq_getElem (by rw [len_bytes]; exact h), Option.getD_some]; rfl
theorem hhi_at (s : ByteArray) (k : Nat) (h : 2 * k < s.size) : hhi s.data.toList k = hexv s[2 * k] := by rw [hhi, getD_at s _ h]
theorem hlo_at (s : ByteArray) (k : Nat) (h : 2 * k + 1 < s.size) : hlo s.data.toList k = hexv s[2 * k + 1] := by rw [hlo, getD_at s _ h]
end Sx
end Go.Proofs.Ytkecappciglonaa
