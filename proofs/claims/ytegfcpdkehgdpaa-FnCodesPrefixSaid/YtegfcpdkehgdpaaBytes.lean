/- Byte slices that a call makes itself: what they hold, how they become strings. Conditions: those that each lemma names. -/
import Derived.Test.YtegfcpdkehgdpaaKit
import Derived.Test.YtegfcpdkehgdpaaPlain
import Derived.Lib.AppendStr
import Derived.Laws.IdiomStrings
import Derived.Laws.BytesArg
import Derived.Laws.BitsAllLaws
import Derived.Laws.BitsLemmas
import Derived.WalkKit
import Derived.WalkSpells
namespace Go.Proofs.Ytegfcpdkehgdpaa
open Go.RowKit

/-- Bytes as cells. -/
def bvals (l : List UInt8) : List Value := l.map fun b => Value.int .u8 (b.toNat : Int)
theorem bvals_length (l : List UInt8) : (bvals l).length = l.length := by simp [bvals]
theorem bvals_append (a b : List UInt8) : bvals (a ++ b) = bvals a ++ bvals b := by simp [bvals]
/-- The string of a list of bytes. -/
def str (l : List UInt8) : ByteArray := ⟨l.toArray⟩
theorem str_data (l : List UInt8) : (str l).data.toList = l := rfl
theorem str_size (l : List UInt8) : (str l).size = l.length := rfl
theorem str_self (s : ByteArray) : str s.data.toList = s := rfl
theorem str_append (a b : List UInt8) : str a ++ str b = str (a ++ b) := ByteArray.mk_append_mk a b

theorem run_own_string {P : Program} (w : World) (src dst e : TypeId) (hs : P.underlying src = some (.slice e)) (he : P.underlying e = some (.int .u8)) (hd : P.underlying dst = some .string)
    {base : Nat} {v : Value} {n : Nat} {l : List UInt8} (hown : w.ownsRow base e 1 v n (bvals l)) : (convert src dst v).run P w = .ok (.string (str l)) w := by
  have hl : l.length = n := by have := hown.1; simpa [bvals_length] using this
  rcases hown.2 with ⟨rfl, rfl⟩ | ⟨g, cap, cur, rfl, _, hh, hc, _, hsz, htk⟩
  · have : l = [] := List.eq_nil_of_length_eq_zero hl
    subst this
    exact run_convert_bytes_nil w src e hs he 0 0 dst hd
  · subst hl
    refine run_convert_bytes_back w src dst e ⟨g, 0, none⟩ cap l hs he hd fun j hj => ?_
    have := hown.cells (g := g) rfl j (.int .u8 (l[j].toNat : Int)) (by simp [bvals, List.getElem?_map, List.getElem?_eq_getElem hj])
    exact this
theorem ofInt_i64 (a : Nat) (ha : a < 9223372036854775808) : (BitVec.ofInt 64 (a : Int)).toNat = a := by
  rw [BitVec.ofInt_natCast, BitVec.toNat_ofNat]; exact Nat.mod_eq_of_lt (by omega)
theorem i64_xor_nat (a b : Nat) (ha : a < 9223372036854775808) (hb : b < 9223372036854775808) : bits .xor .i64 (a : Int) (b : Int) = ((a ^^^ b : Nat) : Int) := by
  have hx : a ^^^ b < 2 ^ 63 := Nat.xor_lt_two_pow (by omega) (by omega)
  show IntKind.i64.wrap ((BitVec.ofInt 64 (a : Int) ^^^ BitVec.ofInt 64 (b : Int)).toNat : Int) = _
  rw [BitVec.toNat_xor, ofInt_i64 a ha, ofInt_i64 b hb, IntKind.wrap_i64]
  omega
theorem own_snoc {w : World} {base : Nat} {e : TypeId} {v : Value} {l : List UInt8} {b : UInt8} {d : Int} (hd : d = (b.toNat : Int)) (h : w.ownsRow base e 1 v (l.length + 1) (bvals l ++ [.int .u8 d])) :
    w.ownsRow base e 1 v (l ++ [b]).length (bvals (l ++ [b])) := by
  subst hd
  rw [bvals_append, List.length_append]
  exact h
theorem own_join {w : World} {base : Nat} {e : TypeId} {v : Value} {l : List UInt8} {s : ByteArray} (h : w.ownsRow base e 1 v (l.length + s.size) (bvals l ++ Lib.strCells s)) :
    w.ownsRow base e 1 v (l ++ s.data.toList).length (bvals (l ++ s.data.toList)) := by
  rw [bvals_append, List.length_append, Sx.len_bytes]
  exact h
/-- What a function that hands back bytes in memory of its own ends in. -/
def OwnsPost (base : Nat) (t : TypeId) (l : List UInt8) (w : World) (e : Ending) (w' : World) : Prop := ∃ v', e = .returned v' ∧ w'.ownsRow base t 1 v' l.length (bvals l) ∧ Below base w w'
theorem u8_new (w : World) (t : TypeId) (d : Int) : ∀ j u, [Value.int IntKind.u8 d][j]? = some u → (w.alloc (.cells #[.int .u8 d] t)).cell? ((⟨w.heap.size, 0, none⟩ : Addr).add j) = some u := cell_one_new _ _ _
end Go.Proofs.Ytegfcpdkehgdpaa
