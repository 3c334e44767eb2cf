/- The walk of the exact law on ParseSetting. Conditions: what start-up laid is laid. -/
import Derived.Test.YthdmnpjdpfeleaaDoorPs2
namespace Go.Proofs.YthdmnpjdpfeleaaDoor
open Go.RowKit

end Go.Proofs.YthdmnpjdpfeleaaDoor
