/- What the proofs of rows that list package-level variables import. Conditions: none. -/
import Derived.Test.YthdmnpjdpfeleaaDoorRows
import Derived.Test.YthdmnpjdpfeleaaDoorTie
import Derived.SevenTiedAt
import Derived.LaidMore
import Derived.LaidLaws
import Derived.OpenShut
import Derived.Stop.Joined
import Derived.JoinedOf
import Derived.ProofKit
import Derived.ChangeSame
import Derived.ChangeVars
import Derived.RowKit
import Derived.RowKitTokens
namespace Go.Proofs.YthdmnpjdpfeleaaDoor
end Go.Proofs.YthdmnpjdpfeleaaDoor
