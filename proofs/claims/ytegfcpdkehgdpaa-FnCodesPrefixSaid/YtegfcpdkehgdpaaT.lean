/- The walk of toSetting. Conditions: none. -/
import Derived.Test.YtegfcpdkehgdpaaS
namespace Go.Proofs.Ytegfcpdkehgdpaa
open Go.RowKit

end Go.Proofs.Ytegfcpdkehgdpaa
