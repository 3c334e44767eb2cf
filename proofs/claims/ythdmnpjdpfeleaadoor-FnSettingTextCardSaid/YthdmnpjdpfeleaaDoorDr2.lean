/- The walks of the drawn inputs of CodeBits and ReverseBits. Conditions: a slice of at most 1048576 bytes. -/
import Derived.Test.YthdmnpjdpfeleaaDoorDr
import Derived.Test.YthdmnpjdpfeleaaDoorCd
namespace Go.Proofs.YthdmnpjdpfeleaaDoor
open Go.RowKit

/-- A draw of three ints. -/
def DrawIII (w : World) (e : Ending) (w' : World) : Prop := ∃ a b c : Int, e = .returned (.tuple #[.int .i64 a, .int .i64 b, .int .i64 c]) ∧ Fits a ∧ Fits b ∧ Fits c ∧ Below w.heap.size w w'
def DrawII (w : World) (e : Ending) (w' : World) : Prop := ∃ a b : Int, e = .returned (.tuple #[.int .i64 a, .int .i64 b]) ∧ Fits a ∧ Fits b ∧ Below w.heap.size w w'

end Go.Proofs.YthdmnpjdpfeleaaDoor
