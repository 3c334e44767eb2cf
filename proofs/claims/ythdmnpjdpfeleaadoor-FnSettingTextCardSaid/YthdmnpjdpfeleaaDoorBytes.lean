/- Byte slices that a call makes itself: what they hold, how they become strings. Conditions: those that each lemma names. -/
import Derived.Test.YthdmnpjdpfeleaaDoorKit
import Derived.Test.YthdmnpjdpfeleaaDoorPlain
import Derived.Lib.AppendStr
import Derived.Laws.IdiomStrings
import Derived.Laws.BytesArg
import Derived.Laws.BitsAllLaws
import Derived.Laws.BitsLemmas
import Derived.WalkKit
import Derived.WalkSpells
namespace Go.Proofs.YthdmnpjdpfeleaaDoor
open Go.RowKit

/-- Bytes as cells. -/
def bvals (l : List UInt8) : List Value := l.map fun b => Value.int .u8 (b.toNat : Int)
/-- The string of a list of bytes. -/
def str (l : List UInt8) : ByteArray := ⟨l.toArray⟩
theorem str_data (l : List UInt8) : (str l).data.toList = l := rfl
theorem str_size (l : List UInt8) : (str l).size = l.length := rfl
theorem str_self (s : ByteArray) : str s.data.toList = s := rfl
theorem ofInt_i64 (a : Nat) (ha : a < 9223372036854775808) : (BitVec.ofInt 64 (a : Int)).toNat = a := by
  rw [BitVec.ofInt_natCast, BitVec.toNat_ofNat]; exact Nat.mod_eq_of_lt (by omega)
theorem i64_xor_nat (a b : Nat) (ha : a < 9223372036854775808) (hb : b < 9223372036854775808) : bits .xor .i64 (a : Int) (b : Int) = ((a ^^^ b : Nat) : Int) := by
  have hx : a ^^^ b < 2 ^ 63 := Nat.xor_lt_two_pow (by omega) (by omega)
  show IntKind.i64.wrap ((BitVec.ofInt 64 (a : Int) ^^^ BitVec.ofInt 64 (b : Int)).toNat : Int) = _
  rw [BitVec.toNat_xor, ofInt_i64 a ha, ofInt_i64 b hb, IntKind.wrap_i64]
  omega
theorem run_one_string {P : Program} (wr : World) (src dst e : TypeId) (hs : P.underlying src = some (.slice e)) (he : P.underlying e = some (.int .u8)) (hd : P.underlying dst = some .string) (b : UInt8) (t : TypeId) :
    (convert src dst (.slice (some ⟨wr.heap.size, 0, none⟩) 1 1)).run P (wr.alloc (.cells #[.int .u8 (b.toNat : Int)] t)) = .ok (.string (str [b])) (wr.alloc (.cells #[.int .u8 (b.toNat : Int)] t)) := by
  refine run_convert_bytes_back _ src dst e ⟨wr.heap.size, 0, none⟩ 1 [b] hs he hd fun j hj => ?_
  have : j = 0 := by simpa using hj
  subst this
  exact cell_one_new _ _ _ 0 _ rfl
/-- What a function that hands back bytes in memory of its own ends in. -/
def OwnsPost (base : Nat) (t : TypeId) (l : List UInt8) (w : World) (e : Ending) (w' : World) : Prop := ∃ v', e = .returned v' ∧ w'.ownsRow base t 1 v' l.length (bvals l) ∧ Below base w w'
end Go.Proofs.YthdmnpjdpfeleaaDoor
