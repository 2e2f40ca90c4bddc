/- BorderOrder: at every map the program's Check names each crossing of borders once, in order, and nothing else. There is no condition. -/
import Derived.Test.YtfophhmfbofjiaaGreatP5x05
namespace Go.Proofs.YtfophhmfbofjiaaGreat
theorem borderOrderHolds : Rows.BorderOrderSaid := borderOrder.over (fun _ h0 => Go.Gp.Gb.law_order h0)
end Go.Proofs.YtfophhmfbofjiaaGreat
