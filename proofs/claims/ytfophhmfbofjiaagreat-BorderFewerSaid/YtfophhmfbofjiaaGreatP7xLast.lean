/- BorderFewer: at every map and every choice of ways and areas to leave out, the crossings of what is left are crossings of the whole. There is no condition. -/
import Derived.Test.YtfophhmfbofjiaaGreatP7x04
namespace Go.Proofs.YtfophhmfbofjiaaGreat
theorem borderFewerHolds : Rows.BorderFewerSaid := borderFewer.over (fun _ _ h0 _ => Go.Gp.Gb.law_fewer h0)
end Go.Proofs.YtfophhmfbofjiaaGreat
