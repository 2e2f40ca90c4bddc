/- BorderFree: at every map without crossings, each border is free, and a way between two different nodes of borders adds no crossing exactly if its segment is free. There is no condition. -/
import Derived.Test.YtfophhmfbofjiaaGreatP9x05
namespace Go.Proofs.YtfophhmfbofjiaaGreat
theorem borderFreeHolds : Rows.BorderFreeSaid := borderFree.over fun _ _ _ _ h0 h1 h2 h3 => Go.Gp.Gb.law_borderfree h0 h1 h2 h3
end Go.Proofs.YtfophhmfbofjiaaGreat
