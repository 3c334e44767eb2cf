/- Byte slices that a call makes itself: what they hold, how they become strings. Conditions: those that each lemma names. -/
import Derived.Test.YthdmnpjdpfeleaaDoorKit
import Derived.Test.YthdmnpjdpfeleaaDoorPlain
import Derived.Lib.AppendStr
import Derived.Laws.IdiomStrings
import Derived.Laws.BytesArg
import Derived.Laws.BitsAllLaws
import Derived.Laws.BitsLemmas
import Derived.WalkKit
import Derived.WalkSpells
namespace Go.Proofs.YthdmnpjdpfeleaaDoor
open Go.RowKit

/-- Bytes as cells. -/
def bvals (l : List UInt8) : List Value := l.map fun b => Value.int .u8 (b.toNat : Int)
theorem bvals_length (l : List UInt8) : (bvals l).length = l.length := by simp [bvals]
theorem bvals_append (a b : List UInt8) : bvals (a ++ b) = bvals a ++ bvals b := by simp [bvals]
theorem bvals_one (b : UInt8) : bvals [b] = [.int .u8 (b.toNat : Int)] := rfl
theorem bvals_str (s : ByteArray) : Lib.strCells s = bvals s.data.toList := rfl
theorem bvals_oneCell (l : List UInt8) : ∀ u ∈ bvals l, u.oneCell' = true := Lib.strCells_oneCell ⟨l.toArray⟩
/-- The string of a list of bytes. -/
def str (l : List UInt8) : ByteArray := ⟨l.toArray⟩
theorem str_data (l : List UInt8) : (str l).data.toList = l := rfl
theorem str_size (l : List UInt8) : (str l).size = l.length := rfl
theorem str_self (s : ByteArray) : str s.data.toList = s := rfl
theorem str_append (a b : List UInt8) : str a ++ str b = str (a ++ b) := ByteArray.mk_append_mk a b

theorem run_own_string {P : Program} (w : World) (src dst e : TypeId) (hs : P.underlying src = some (.slice e)) (he : P.underlying e = some (.int .u8)) (hd : P.underlying dst = some .string)
    {base : Nat} {v : Value} {n : Nat} {l : List UInt8} (hown : w.ownsRow base e 1 v n (bvals l)) : (convert src dst v).run P w = .ok (.string (str l)) w := by
  have hl : l.length = n := by have := hown.1; simpa [bvals_length] using this
  rcases hown.2 with ⟨rfl, rfl⟩ | ⟨g, cap, cur, rfl, _, hh, hc, _, hsz, htk⟩
  · have : l = [] := List.eq_nil_of_length_eq_zero hl
    subst this
    exact run_convert_bytes_nil w src e hs he 0 0 dst hd
  · subst hl
    refine run_convert_bytes_back w src dst e ⟨g, 0, none⟩ cap l hs he hd fun j hj => ?_
    have := hown.cells (g := g) rfl j (.int .u8 (l[j].toNat : Int)) (by simp [bvals, List.getElem?_map, List.getElem?_eq_getElem hj])
    exact this
theorem ofInt_i64 (a : Nat) (ha : a < 9223372036854775808) : (BitVec.ofInt 64 (a : Int)).toNat = a := by
  rw [BitVec.ofInt_natCast, BitVec.toNat_ofNat]; exact Nat.mod_eq_of_lt (by omega)
theorem i64_and_nat (a b : Nat) (ha : a < 9223372036854775808) (hb : b < 9223372036854775808) : bits .and .i64 (a : Int) (b : Int) = ((a &&& b : Nat) : Int) := by
  have hx : a &&& b < 2 ^ 63 := Nat.and_lt_two_pow _ (by omega)
  show IntKind.i64.wrap ((BitVec.ofInt 64 (a : Int) &&& BitVec.ofInt 64 (b : Int)).toNat : Int) = _
  rw [BitVec.toNat_and, ofInt_i64 a ha, ofInt_i64 b hb, IntKind.wrap_i64]
  omega
theorem i64_or_nat (a b : Nat) (ha : a < 9223372036854775808) (hb : b < 9223372036854775808) : bits .or .i64 (a : Int) (b : Int) = ((a ||| b : Nat) : Int) := by
  have hx : a ||| b < 2 ^ 63 := Nat.or_lt_two_pow (by omega) (by omega)
  show IntKind.i64.wrap ((BitVec.ofInt 64 (a : Int) ||| BitVec.ofInt 64 (b : Int)).toNat : Int) = _
  rw [BitVec.toNat_or, ofInt_i64 a ha, ofInt_i64 b hb, IntKind.wrap_i64]
  omega
theorem i64_xor_nat (a b : Nat) (ha : a < 9223372036854775808) (hb : b < 9223372036854775808) : bits .xor .i64 (a : Int) (b : Int) = ((a ^^^ b : Nat) : Int) := by
  have hx : a ^^^ b < 2 ^ 63 := Nat.xor_lt_two_pow (by omega) (by omega)
  show IntKind.i64.wrap ((BitVec.ofInt 64 (a : Int) ^^^ BitVec.ofInt 64 (b : Int)).toNat : Int) = _
  rw [BitVec.toNat_xor, ofInt_i64 a ha, ofInt_i64 b hb, IntKind.wrap_i64]
  omega
theorem run_make_rowN {P : Program} (t e : TypeId) (i : TypeInfo) (z : Value) (ht : P.underlying t = some (.slice e)) (hi : P.info? e = some i) (hz : i.zero = some z)
    (kl kc : IntKind) (n c : Nat) (hnc : n ≤ c) (hbytes : i.bytes * c ≤ 281474976710656) (h63 : c ≤ 9223372036854775807) (w : World) :
    (Instr.makeSlice t (.int kl (n : Int)) (.int kc (c : Int))).run P w = .ok (.slice (some ⟨w.heap.size, 0, none⟩) n c) (w.alloc (.cells (madeCells z.cells (c * i.size)) e)) := by
  have hb : (i.bytes : Int) * (c : Int) ≤ 281474976710656 := by
    have h : ((i.bytes * c : Nat) : Int) ≤ 281474976710656 := by omega
    rwa [Int.natCast_mul] at h
  have hr := run_make (P := P) w t e i z ht hi hz kl kc n c (by omega) (by omega) hb (by omega)
  simp only [Int.toNat_natCast] at hr
  exact hr
theorem run_makeMap_hint {P : Program} (t k e : TypeId) (kd : IntKind) (n : Int) (ht : P.underlying t = some (.map k e)) (w : World) :
    (Instr.makeMap t (some (.int kd n))).run P w = .ok (.map (some w.heap.size)) (w.alloc (.map #[] 0)) := by
  simp [Instr.makeMap, run_underlying ht]; rfl

theorem own_snoc {w : World} {base : Nat} {e : TypeId} {v : Value} {l : List UInt8} {b : UInt8} {d : Int} (hd : d = (b.toNat : Int)) (h : w.ownsRow base e 1 v (l.length + 1) (bvals l ++ [.int .u8 d])) :
    w.ownsRow base e 1 v (l ++ [b]).length (bvals (l ++ [b])) := by
  subst hd
  rw [bvals_append, List.length_append]
  exact h
theorem own_join {w : World} {base : Nat} {e : TypeId} {v : Value} {l : List UInt8} {s : ByteArray} (h : w.ownsRow base e 1 v (l.length + s.size) (bvals l ++ Lib.strCells s)) :
    w.ownsRow base e 1 v (l ++ s.data.toList).length (bvals (l ++ s.data.toList)) := by
  rw [bvals_append, List.length_append, Sx.len_bytes]
  exact h
theorem run_one_string {P : Program} (wr : World) (src dst e : TypeId) (hs : P.underlying src = some (.slice e)) (he : P.underlying e = some (.int .u8)) (hd : P.underlying dst = some .string) (b : UInt8) (t : TypeId) :
    (convert src dst (.slice (some ⟨wr.heap.size, 0, none⟩) 1 1)).run P (wr.alloc (.cells #[.int .u8 (b.toNat : Int)] t)) = .ok (.string (str [b])) (wr.alloc (.cells #[.int .u8 (b.toNat : Int)] t)) := by
  refine run_convert_bytes_back _ src dst e ⟨wr.heap.size, 0, none⟩ 1 [b] hs he hd fun j hj => ?_
  have : j = 0 := by simpa using hj
  subst this
  exact cell_one_new _ _ _ 0 _ rfl
/-- What a function that hands back bytes in memory of its own ends in. -/
def OwnsPost (base : Nat) (t : TypeId) (l : List UInt8) (w : World) (e : Ending) (w' : World) : Prop := ∃ v', e = .returned v' ∧ w'.ownsRow base t 1 v' l.length (bvals l) ∧ Below base w w'
theorem grown_below {B : Nat} {w w1 w2 : World} {base : Nat} {e : TypeId} {size n : Nat} {v : Value} {xs : List Value} (h : Below B w w1) (hw : B ≤ w.heap.size) (hown : w1.ownsRow base e size v n xs) (hB : B ≤ base) (hg : w1.grownBy w2 v.ownBlock) : Below B w w2 :=
  h.grown hg (Nat.le_trans hw h.size) fun k hk => Nat.le_trans hB (hown.lt k hk).1
theorem u8_new (w : World) (t : TypeId) (d : Int) : ∀ j u, [Value.int IntKind.u8 d][j]? = some u → (w.alloc (.cells #[.int .u8 d] t)).cell? ((⟨w.heap.size, 0, none⟩ : Addr).add j) = some u := cell_one_new _ _ _
end Go.Proofs.YthdmnpjdpfeleaaDoor
