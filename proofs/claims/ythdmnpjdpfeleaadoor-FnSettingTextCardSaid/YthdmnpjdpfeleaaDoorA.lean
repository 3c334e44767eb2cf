/- The walks of the functions on single numbers: BitsNeeded, settings. Conditions: each argument is an int. -/
import Derived.Test.YthdmnpjdpfeleaaDoorPlain
import Derived.Test.YthdmnpjdpfeleaaDoorKit
import Derived.Test.YthdmnpjdpfeleaaDoorShelf
import Derived.Test.YthdmnpjdpfeleaaDoorRows
import Derived.WalkKit
import Derived.WalkSpells
import Derived.Lib.Hide
namespace Go.Proofs.YthdmnpjdpfeleaaDoor
open Go.RowKit

end Go.Proofs.YthdmnpjdpfeleaaDoor
