/- Plain facts on numbers and lists: no program. Conditions: none beyond what each lemma says. -/
import Derived.Lib.BitFns
namespace Go.Proofs.YthdmnpjdpfeleaaDoor
namespace Sx
/-- The number of binary digits, 1 for 0. -/
def need (n : Nat) : Nat := n.log2 + 1
/-- BitsNeeded. -/
def needI (n : Int) : Int := if n < 0 then -1 else (need n.toNat : Int)
def two (n : Int) : Int := ((2 ^ n.toNat : Nat) : Int)
def ordOK (o : Int) : Bool := decide (o = 0 ∨ o = 1)
def setOK (o l m : Int) : Bool := decide ((o = 0 ∨ o = 1) ∧ 1 ≤ l ∧ l ≤ 8 ∧ l + 2 ≤ m ∧ m ≤ 10)
def clearI (o l m : Int) : Int := if setOK o l m = true then two l else -1
def endI (o l m : Int) : Int := if setOK o l m = true then two l + 1 else -1
def lastI (o l m : Int) : Int := if setOK o l m = true then two m - 1 else -1
def isBit (b : UInt8) : Bool := b == 48 || b == 49
def isLit (l : Int) (b : UInt8) : Bool := decide ((b.toNat : Int) < two l)
def bitsValid (s : ByteArray) : Bool := decide (s.size ≤ 32000) && s.data.toList.all isBit
/-- All bytes are literals. -/
def lits (l : Int) (s : ByteArray) : Bool := s.data.toList.all (isLit l)
def fits (o l m : Int) (s : ByteArray) : Bool := setOK o l m && (decide (s.size ≤ 2000) && s.data.toList.all (isLit l))

theorem len_bytes (s : ByteArray) : s.data.toList.length = s.size := by rw [Array.length_toList]; rfl
end Sx
end Go.Proofs.YthdmnpjdpfeleaaDoor
