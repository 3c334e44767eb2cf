/- The walk of a drawn setting as a law calls it. Conditions: a slice of at most 1048576 bytes. -/
import Derived.Test.YtegfcpdkehgdpaaDr8
import Derived.Test.YtegfcpdkehgdpaaKn
namespace Go.Proofs.Ytegfcpdkehgdpaa
open Go.RowKit

/-- A draw of a setting. -/
def DrawSet (w : World) (e : Ending) (w' : World) : Prop := ∃ o l m : Int, e = .returned (sv o l m) ∧ FitsS o l m ∧ Below w.heap.size w w'
/-- A draw of a setting and a string. -/
def DrawSetS (k : Nat) (w : World) (e : Ending) (w' : World) : Prop := ∃ (o l m : Int) (s : ByteArray), e = .returned (.tuple #[sv o l m, .string s]) ∧ FitsS o l m ∧ s.size ≤ k ∧ Below w.heap.size w w'
end Go.Proofs.Ytegfcpdkehgdpaa
