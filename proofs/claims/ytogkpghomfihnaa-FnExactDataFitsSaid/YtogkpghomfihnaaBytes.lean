/- Byte slices that a call makes itself: what they hold, how they become strings. Conditions: those that each lemma names. -/
import Derived.Test.YtogkpghomfihnaaKit
import Derived.Test.YtogkpghomfihnaaPlain
import Derived.Lib.AppendStr
import Derived.Laws.IdiomStrings
import Derived.Laws.BytesArg
import Derived.WalkKit
import Derived.WalkSpells
namespace Go.Proofs.Ytogkpghomfihnaa
open Go.RowKit

/-- Bytes as cells. -/
def bvals (l : List UInt8) : List Value := l.map fun b => Value.int .u8 (b.toNat : Int)
theorem bvals_length (l : List UInt8) : (bvals l).length = l.length := by simp [bvals]
theorem bvals_append (a b : List UInt8) : bvals (a ++ b) = bvals a ++ bvals b := by simp [bvals]
theorem bvals_one (b : UInt8) : bvals [b] = [.int .u8 (b.toNat : Int)] := rfl
theorem bvals_str (s : ByteArray) : Lib.strCells s = bvals s.data.toList := rfl
theorem bvals_oneCell (l : List UInt8) : ∀ u ∈ bvals l, u.oneCell' = true := Lib.strCells_oneCell ⟨l.toArray⟩
/-- The string of a list of bytes. -/
def str (l : List UInt8) : ByteArray := ⟨l.toArray⟩
theorem str_data (l : List UInt8) : (str l).data.toList = l := rfl
theorem str_size (l : List UInt8) : (str l).size = l.length := rfl
theorem str_self (s : ByteArray) : str s.data.toList = s := rfl
theorem str_append (a b : List UInt8) : str a ++ str b = str (a ++ b) := ByteArray.mk_append_mk a b

theorem run_own_string {P : Program} (w : World) (src dst e : TypeId) (hs : P.underlying src = some (.slice e)) (he : P.underlying e = some (.int .u8)) (hd : P.underlying dst = some .string)
    {base : Nat} {v : Value} {n : Nat} {l : List UInt8} (hown : w.ownsRow base e 1 v n (bvals l)) : (convert src dst v).run P w = .ok (.string (str l)) w := by
  have hl : l.length = n := by have := hown.1; simpa [bvals_length] using this
  rcases hown.2 with ⟨rfl, rfl⟩ | ⟨g, cap, cur, rfl, _, hh, hc, _, hsz, htk⟩
  · have : l = [] := List.eq_nil_of_length_eq_zero hl
    subst this
    exact run_convert_bytes_nil w src e hs he 0 0 dst hd
  · subst hl
    refine run_convert_bytes_back w src dst e ⟨g, 0, none⟩ cap l hs he hd fun j hj => ?_
    have := hown.cells (g := g) rfl j (.int .u8 (l[j].toNat : Int)) (by simp [bvals, List.getElem?_map, List.getElem?_eq_getElem hj])
    exact this
end Go.Proofs.Ytogkpghomfihnaa
